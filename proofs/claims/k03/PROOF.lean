import PyProof.Rows.All
import Wide.All
import OpenK.AllK
import Wide.FinOn
import HandS.Base
import HandS.Call
import HandS.List
import HandS.Exc
import HandS.Style
import KE.KTupSum
import PyProof.ListMulRoad
import PyProof.FactsAll.tuple_2
import HandS.TupMul
import HandS.Iter
import KE.GoesMore
import KE.GoesEnum
import PyProof.EqAt
import PyProof.EqKinds
import PyProof.TupleCall
import KE.KDictZip
import KE.KItemsList
import HandS.Dict
import HandS.ListItems
import PyProof.WalkInts
import PyProof.WalksMore
import HandS.Strs
import HandS.TupSets
import HandS.SortInts
import HandS.SortOrd
import HandS.ForMost
import HandS.ExcOwn
import HandS.TupAny
import HandS.Wide
import HandS.Deep
import HandS.Slots
import HandS.HeadHook1
import PyProof.StrOps2
import HandS.Flow
import HandS.Star
import HandS.TryOnly
import HandS.Zip
import HandS.Walk
import HandS.IsInst
import HandS.FStr
import HandS.Codes
import HandS.HeadHook2
import HandS.SlotsOwn
import HandS.ExcInit
import HandS.ExcField
import HandS.Defaults
import KE.KExcIs
import KE.KTryMore
import HandS.Conv
import HandS.HeadEnd
import HandS.Head0
import HandS.Head1
import HandS.Head2
import HandS.More
import HandS.WordsExc
import PySem.Challenge.RW_allbutts_k03_wrong_texts_of_runs
set_option Elab.async false
set_option linter.all false
section
set_option linter.all false
set_option maxRecDepth 100000
/-! a small evaluator over data: what the bodies of the defs do, with lists that are owned by one name -/
namespace Ev
open PySem

abbrev D := PyData

inductive Slot where
  | val (d : D)
  | own (ds : List D)
  | rd (ds : List D)

abbrev Env := List (Option Slot)

inductive R (α : Type) where
  | ok (a : α) (e : Env)
  | exc (c : Nat) (ds : List D) (e : Env)
  | no

def R.bind {α β : Type} : R α → (α → Env → R β) → R β
  | .ok a e, f => f a e
  | .exc c ds e, _ => .exc c ds e
  | .no, _ => .no

def R.opt {α : Type} : Option α → Env → R α
  | some a, e => .ok a e
  | none, _ => .no

inductive BOp where
  | add | sub | mul | fdiv | mod | pow
inductive COp where
  | eq | ne | lt | le | gt | ge | isin | notin
inductive Ty where
  | int | bool | str | list | tuple | cls (c : Nat)
inductive BI where
  | len | abs | int | str | min | max | sum | all | any | sorted | list | tuple | set | range | repr
inductive MB where
  | split | join | partition | index | count | replace

/-! ### what the operations give -/
def S (l : List Nat) : Str := ⟨l.toArray⟩
def cs (x : Str) : List Nat := x.cps.toList

def mulOk (i j : Int) : Bool := decide (i.natAbs.log2 < 63) || decide (j.natAbs.log2 < 63) || decide (i.natAbs.log2 + j.natAbs.log2 < 1000000)
def divOk (j : Int) : Bool := decide (0 < j) && decide (j.natAbs.log2 < 9000)
def powOk (i j : Int) : Bool := decide (0 ≤ j) && decide (j ≤ 1000000) && decide (i.natAbs < 2 ^ 64)

def repL {α : Type} (n : Nat) (xs : List α) : List α := (List.replicate n xs).flatten
def repOk (k : Int) (n : Nat) : Bool := decide (-(2 ^ 63) ≤ k) && decide (k < 2 ^ 63) && decide (n * k.toNat ≤ sizeLine)

def repOkT (k : Int) (n : Nat) : Bool := decide (2 ≤ k) && decide (k ≤ 1000) && decide (1 ≤ n) && decide (n ≤ 1000)
def repOkU (k : Int) (n : Nat) : Bool := repOkT k n || ((decide (k = 1) || decide (n = 0)) && decide (-(2 ^ 62) ≤ k) && decide (k < 2 ^ 62))

/-- a value of a fresh list is owned -/
def fresh : D → Slot
  | .list ds => .own ds
  | d => .val d
/-- a slot's value, as data -/
def Slot.dat : Slot → Option D
  | .val d => some d
  | .own ds => some (.list ds)
  | .rd _ => none

def binD : BOp → D → D → Option D
  | .add, .int i, .int j => some (.int (i + j))
  | .sub, .int i, .int j => some (.int (i - j))
  | .mul, .int i, .int j => if mulOk i j then some (.int (i * j)) else none
  | .fdiv, .int i, .int j => if divOk j then some (.int (i / j)) else none
  | .mod, .int i, .int j => if decide (0 < j) then some (.int (i % j)) else none
  | .pow, .int i, .int j => if powOk i j then some (.int (i ^ j.toNat)) else none
  | .add, .str x, .str y => if decide (x.length + y.length ≤ sizeLine) then some (.str (x ++ y)) else none
  | .add, .list x, .list y => if decide (x.length + y.length ≤ sizeLine) then some (.list (x ++ y)) else none
  | .add, .tuple x, .tuple y => if decide (x.length + y.length ≤ sizeLine) then some (.tuple (x ++ y)) else none
  | .mul, .list x, .int k => if repOk k x.length then some (.list (repL k.toNat x)) else none
  | .mul, .tuple x, .int k => if repOkU k x.length then some (.tuple (repL k.toNat x)) else none
  | .mul, .str x, .int k => if repOkT k x.length then some (.str (S (repL k.toNat (cs x)))) else none
  | _, _, _ => none

/-- == of two data -/
def eqD : D → D → Option Bool
  | .int i, .int j => some (i == j)
  | .none, .none => some true
  | .bool a, .bool b => some (a == b)
  | .str a, .str b => some (a == b)
  | a, b => if SeqAt.shaped a && SeqAt.shaped b then some (PyData.eqv a b) else none

def flat : D → Bool
  | .none | .bool _ | .int _ | .str _ => true
  | _ => false

def anyEq (x : D) : List D → Bool
  | [] => false
  | y :: ys => PyData.eqv y x || anyEq x ys

/-- x in a list or tuple, x in a text (one sign) -/
def inD : D → D → Option Bool
  | x, .list ys => if SeqAt.shaped x && SeqAt.shaped (.list ys) then some (anyEq x ys) else none
  | x, .tuple ys => if flat x && ys.all flat then some (anyEq x ys) else none
  | .str x, .str y => match cs x with
    | [c] => some (decide (c ∈ cs y))
    | _ => none
  | _, _ => none

def ltL : List Nat → List Nat → Bool
  | [], [] => false
  | [], _ :: _ => true
  | _ :: _, [] => false
  | a :: x, b :: y => if a < b then true else if b < a then false else ltL x y

def cmpD : COp → D → D → Option Bool
  | .eq, a, b => eqD a b
  | .ne, a, b => (eqD a b).map (!·)
  | .lt, .int i, .int j => some (decide (i < j))
  | .le, .int i, .int j => some (decide (i ≤ j))
  | .gt, .int i, .int j => some (decide (j < i))
  | .ge, .int i, .int j => some (decide (j ≤ i))
  | .isin, a, b => inD a b
  | .notin, a, b => (inD a b).map (!·)
  | _, _, _ => none

def truthD : D → Option Bool
  | .bool b => some b
  | .int i => some (i != 0)
  | .str x => if decide (x.length ≤ sizeLine) then some (!(cs x).isEmpty) else none
  | .list xs => some (!xs.isEmpty)
  | .tuple xs => some (!xs.isEmpty)
  | .none => some false
  | .dict _ => none

def intsD : List D → Option (List Int)
  | [] => some []
  | .int i :: r => (intsD r).map (i :: ·)
  | _ => none
def boolsD : List D → Option (List Bool)
  | [] => some []
  | .bool i :: r => (boolsD r).map (i :: ·)
  | _ => none
def strsD : List D → Option (List Str)
  | [] => some []
  | .str i :: r => (strsD r).map (i :: ·)
  | _ => none

def insI (x : Int) : List Int → List Int
  | [] => [x]
  | y :: ys => if x ≤ y then x :: y :: ys else y :: insI x ys
def sortI : List Int → List Int
  | [] => []
  | x :: xs => insI x (sortI xs)
def maxL : Int → List Int → Int
  | m, [] => m
  | m, x :: xs => maxL (if x > m then x else m) xs
def minL : Int → List Int → Int
  | m, [] => m
  | m, x :: xs => minL (if x < m then x else m) xs

/-- a number's digits, the last one first -/
def digR : Nat → Nat → List Nat
  | 0, _ => []
  | k + 1, n => if n < 10 then [48 + n] else (48 + n % 10) :: digR k (n / 10)
def natCs (n : Nat) : List Nat := (digR (n.log2 + 1) n).reverse
def intCs (i : Int) : List Nat := if i < 0 then 45 :: natCs i.natAbs else natCs i.natAbs
def numOk (i : Int) : Bool := decide (i.natAbs.log2 < 1920)
def isDig (c : Nat) : Bool := decide (48 ≤ c) && decide (c ≤ 57)
def numOf (l : List Nat) : Nat := l.foldl (fun a c => a * 10 + (c - 48)) 0
/-- int(text) of plain digits -/
def intOf (x : Str) : Option Int :=
  if !(cs x).isEmpty && (cs x).all isDig && decide (x.length ≤ 640) then some (numOf (cs x) : Nat) else none

def lenD : D → Option D
  | .list xs => some (.int xs.length)
  | .tuple xs => some (.int xs.length)
  | .str x => if decide (x.length ≤ sizeLine) then some (.int (cs x).length) else none
  | _ => none

def itemsD : D → Option (List D)
  | .list xs => some xs
  | .tuple xs => some xs
  | .str x => if decide (x.length ≤ sizeLine) then some ((cs x).map fun c => .str (S [c])) else none
  | _ => none

def seqD : D → Option (List D)
  | .list xs => some xs
  | .tuple xs => some xs
  | _ => none

def rngL (lo : Int) (n : Nat) : List D := (List.range n).map fun k => .int (lo + (k : Nat))
def rngOk (i : Int) : Bool := decide (-(2 ^ 62) ≤ i) && decide (i < 2 ^ 62)
/-- the intsD of a range -/
def rangeD : List D → Option (List D)
  | [.int j] => if rngOk j then some (rngL 0 j.toNat) else none
  | [.int i, .int j] => if rngOk i && rngOk j then some (rngL i (j - i).toNat) else none
  | _ => none

def biD : BI → List D → Option Slot
  | .len, [d] => (lenD d).map .val
  | .abs, [.int i] => some (.val (.int (if i < 0 then -i else i)))
  | .int, [.int i] => some (.val (.int i))
  | .int, [.bool b] => some (.val (.int (if b then 1 else 0)))
  | .int, [.str x] => (intOf x).map fun n => .val (.int n)
  | .str, [.int i] => if numOk i then some (.val (.str (S (intCs i)))) else none
  | .max, [.int i, .int j] => some (.val (.int (if j > i then j else i)))
  | .min, [.int i, .int j] => some (.val (.int (if j < i then j else i)))
  | .max, [.list xs] => match intsD xs with
    | some (y :: ys) => some (.val (.int (maxL y ys)))
    | _ => none
  | .min, [.list xs] => match intsD xs with
    | some (y :: ys) => some (.val (.int (minL y ys)))
    | _ => none
  | .max, [.tuple xs] => match intsD xs with
    | some (y :: ys) => some (.val (.int (maxL y ys)))
    | _ => none
  | .min, [.tuple xs] => match intsD xs with
    | some (y :: ys) => some (.val (.int (minL y ys)))
    | _ => none
  | .sum, [.list xs] => (intsD xs).map fun l => .val (.int l.sum)
  | .sum, [.tuple xs] => (intsD xs).map fun l => .val (.int l.sum)
  | .all, [.list xs] => (boolsD xs).map fun l => .val (.bool (l.all id))
  | .any, [.list xs] => (boolsD xs).map fun l => .val (.bool (l.any id))
  | .sorted, [.list xs] => (intsD xs).map fun l => .own ((sortI l).map .int)
  | .sorted, [.tuple xs] => (intsD xs).map fun l => .own ((sortI l).map .int)
  | .list, [.list xs] => some (.own xs)
  | .list, [.tuple xs] => some (.own xs)
  | .tuple, [.list xs] => some (.val (.tuple xs))
  | .tuple, [.tuple xs] => some (.val (.tuple xs))
  | _, _ => none

/-- a text cut at a sign -/
def cut (s : Nat) : List Nat → List Nat → List (List Nat)
  | acc, [] => [acc.reverse]
  | acc, c :: r => if c = s then acc.reverse :: cut s [] r else cut s (c :: acc) r

def joinL (s : List Nat) : List (List Nat) → List Nat
  | [] => []
  | [x] => x
  | x :: y :: r => x ++ (s ++ joinL s (y :: r))

def posOf (x : D) : List D → Nat → Option Nat
  | [], _ => none
  | y :: ys, k => if PyData.eqv y x then some k else posOf x ys (k + 1)

def mbD : MB → D → List D → Option Slot
  | .split, .str x, [.str y] => match cs y with
    | [c] => if decide (x.length + 2 ≤ sizeLine) && decide (c < 256) then some (.own ((cut c [] (cs x)).map fun w => .str (S w))) else none
    | _ => none
  | .join, .str x, [.list ys] => match strsD ys with
    | some zs => if decide ((zs.map (·.length)).sum + zs.length * x.length ≤ 16777216) then some (.val (.str (S (joinL (cs x) (zs.map cs))))) else none
    | none => none
  | .index, .list ys, [x] => if flat x && ys.all flat then (posOf x ys 0).map fun k => .val (.int (k : Nat)) else none
  | _, _, _ => none

def sIx (n d : Nat) : Option Int → Nat
  | none => d
  | some v => if v < 0 then (v + (n : Int)).toNat else min v.toNat n
def cutD {α : Type} (xs : List α) (lo hi : Option Int) : List α := (xs.drop (sIx xs.length 0 lo)).take (sIx xs.length xs.length hi - sIx xs.length 0 lo)
def slD : D → Option Int → Option Int → Option Slot
  | .list xs, lo, hi => some (.own (cutD xs lo hi))
  | .tuple xs, lo, hi => some (.val (.tuple (cutD xs lo hi)))
  | .str x, lo, hi => if decide (x.length ≤ sizeLine) then some (.val (.str (S (cutD (cs x) lo hi)))) else none
  | _, _, _ => none
def revD : D → Option Slot
  | .list xs => some (.own xs.reverse)
  | .tuple xs => some (.val (.tuple xs.reverse))
  | _ => none
def ixOf (n : Nat) (i : Int) : Option Nat := if 0 ≤ i then (if i < n then some i.toNat else none) else if -(n : Int) ≤ i then some (i + n).toNat else none
def atL {α : Type} (xs : List α) (i : Int) : Option α := (ixOf xs.length i).bind fun j => xs[j]?
def atD : D → D → Option D
  | .list xs, .int i => atL xs i
  | .tuple xs, .int i => atL xs i
  | .str x, .int i => if decide (x.length ≤ sizeLine) then (atL (cs x) i).map fun c => .str (S [c]) else none
  | _, _ => none

def isTy : D → Ty → Bool
  | .int _, .int => true
  | .bool _, .int => true
  | .bool _, .bool => true
  | .str _, .str => true
  | .list _, .list => true
  | .tuple _, .tuple => true
  | _, _ => false

/-! ### the calls -/
inductive CR where
  | ret (s : Slot) (ps : List (Option Slot))
  | exc (c : Nat) (ds : List D) (ps : List (Option Slot))
  | no
structure Ctx where
  call : Nat → List Slot → CR
  fuel : Nat

/-- what expressions, tests, statements, walked things do -/
inductive F where
  | next (e : Env)
  | ret (s : Slot) (e : Env)
  | brk (e : Env)
  | cont (e : Env)
  | exc (c : Nat) (ds : List D) (e : Env)
  | no
abbrev Ex := Ctx → Env → R Slot
abbrev Tx := Ctx → Env → R Bool
abbrev Sx := Ctx → Env → F
abbrev Ix := Ctx → Env → R (List D)

inductive MT where
  | nm (i : Nat)
  | tp (ts : List MT)
/-- an item of a display, an argument -/
inductive Item where
  | one (m : Ex)
  | star (m : Ex)
  | starV (i : Nat)
inductive Arg where
  | val (m : Ex)
  | ref (i : Nat)

def getS (e : Env) (i : Nat) : Option Slot := (e[i]?).join
def datV (e : Env) (i : Nat) : Option D := (getS e i).bind Slot.dat
mutual
def bindT : MT → D → Env → Option Env
  | .nm i, d, e => some (e.set i (some (.val d)))
  | .tp ts, d, e => match d with
    | .tuple ds => bindTs ts ds e
    | .list ds => bindTs ts ds e
    | _ => none
def bindTs : List MT → List D → Env → Option Env
  | [], [], e => some e
  | t :: ts, d :: ds, e => (bindT t d e).bind fun e => bindTs ts ds e
  | _, _, _ => none
end

def wipeE (e : Env) : List Nat → Env
  | [] => e
  | v :: vs => (wipeE e vs).set v none
def restE (e0 e : Env) : List Nat → Env
  | [] => e
  | v :: vs => (restE e0 e vs).set v (getS e0 v)
def noOwn (e : Env) (vs : List Nat) : Bool := vs.all fun v => match getS e v with
  | some (.own _) => false
  | some (.rd _) => false
  | _ => true

def loopL (f : D → Env → R (Option D)) : Nat → List D → Env → R (List D)
  | _, [], e => .ok [] e
  | n, x :: xs, e => (f x e).bind fun o e => match o with
    | some d => if decide (n < sizeLine) then (loopL f (n + 1) xs e).bind fun r e => .ok (d :: r) e else .no
    | none => loopL f n xs e
/-- an exception is no answer there -/
def noX {α : Type} : R α → R α
  | .exc _ _ _ => .no
  | r => r

def val (r : R Slot) : R D := r.bind fun s e => R.opt s.dat e
def opn (o : Option Slot) (e : Env) : R Slot := R.opt o e

/-- the slots that the callee hands back, put where they came from -/
def putBack : List Arg → List (Option Slot) → Env → Env
  | .ref i :: as, p :: ps, e => putBack as ps (e.set i p)
  | .val _ :: as, _ :: ps, e => putBack as ps e
  | _, _, e => e
def refsOf : List Arg → List Nat
  | [] => []
  | .ref i :: as => i :: refsOf as
  | .val _ :: as => refsOf as
/-- the arguments at the call: those handed by their name are read now -/
def atCall : List Arg → List Slot → Env → Option (List Slot)
  | [], _, _ => some []
  | .ref i :: as, ss, e => (getS e i).bind fun s => (atCall as ss e).map (s :: ·)
  | .val _ :: as, s :: ss, e => (atCall as ss e).map (s :: ·)
  | .val _ :: _, [], _ => none

/-! ### expressions -/
def cVar (i : Nat) : Ex := fun _ e => match getS e i with
  | some (.val d) => .ok (.val d) e
  | some (.own ds) => .ok (.val (.list ds)) (e.set i (some (.val (.list ds))))
  | _ => .no
def cMov (i : Nat) : Ex := fun _ e => match getS e i with
  | some (.own ds) => .ok (.own ds) (e.set i none)
  | some (.val d) => .ok (.val d) e
  | _ => .no
/-- as data, whoever owned it -/
def cVal (m : Ex) : Ex := fun C e => (val (m C e)).bind fun d e => .ok (.val d) e
def cCon (d : D) : Ex := fun _ e => .ok (.val d) e
/-- one value, two values into one -/
def c1 (g : D → Option Slot) (a : Ex) : Ex := fun C e => (val (a C e)).bind fun x e => opn (g x) e
def c2 (g : D → D → Option Slot) (a b : Ex) : Ex := fun C e => (val (a C e)).bind fun x e => (val (b C e)).bind fun y e => opn (g x y) e
/-- the same where the first one is a name, read last -/
def c1V (g : D → Option Slot) (i : Nat) : Ex := fun _ e => opn ((datV e i).bind g) e
def c2V (g : D → D → Option Slot) (i : Nat) (b : Ex) : Ex := fun C e => (R.opt (getS e i) e).bind fun _ e => (val (b C e)).bind fun y e => opn ((datV e i).bind (g · y)) e
/-- the same where the second one is -/
def c2W (g : D → D → Option Slot) (a : Ex) (i : Nat) : Ex := fun C e => (val (a C e)).bind fun x e => opn ((datV e i).bind (g x)) e
def bl (o : Option Bool) : Option Slot := o.map fun b => .val (.bool b)
def gBin (op : BOp) : D → D → Option Slot := fun x y => (binD op x y).map fresh
def gCmp (op : COp) : D → D → Option Slot := fun x y => bl (cmpD op x y)
def gAt : D → D → Option Slot := fun x y => (atD x y).map .val
def cBin (op : BOp) : Ex → Ex → Ex := c2 (gBin op)
def negD : D → Option Slot
  | .int i => some (.val (.int (-i)))
  | _ => none
def cNeg : Ex → Ex := c1 negD
def cCmp (op : COp) : Ex → Ex → Ex := c2 (gCmp op)
def isN : D → Bool
  | .none => true
  | _ => false
def gIsN (ng : Bool) : D → Option Slot := fun x => some (.val (.bool (if ng then !isN x else isN x)))
def cIsN (ng : Bool) : Ex → Ex := c1 (gIsN ng)
def cChn (o1 o2 : COp) (a b c : Ex) : Ex := fun C e => (val (a C e)).bind fun x e => (val (b C e)).bind fun y e => (R.opt (cmpD o1 x y) e).bind fun k e =>
  if k then (val (c C e)).bind fun z e => opn ((cmpD o2 y z).map fun b => .val (.bool b)) e else .ok (.val (.bool false)) e
def cAnd (a b : Ex) : Ex := fun C e => (val (a C e)).bind fun s e => (R.opt (truthD s) e).bind fun k e => if k then b C e else .ok (.val s) e
def cOr (a b : Ex) : Ex := fun C e => (a C e).bind fun s e => (R.opt (s.dat.bind truthD) e).bind fun k e => if k then .ok s e else b C e
def cIte (c : Tx) (a b : Ex) : Ex := fun C e => (c C e).bind fun k e => if k then a C e else b C e
def gNot : D → Option Slot := fun x => (truthD x).map fun k => .val (.bool (!k))
def cNot : Ex → Ex := c1 gNot
def cInV (op : COp) : Ex → Nat → Ex := c2W (gCmp op)
def evs (C : Ctx) : List Ex → Env → R (List D)
  | [], e => .ok [] e
  | m :: ms, e => (val (m C e)).bind fun x e => (evs C ms e).bind fun ds e => .ok (x :: ds) e
def evItems (C : Ctx) : List Item → Env → R (List D)
  | [], e => .ok [] e
  | .one m :: ms, e => (val (m C e)).bind fun x e => (evItems C ms e).bind fun ds e => .ok (x :: ds) e
  | .star m :: ms, e => (val (m C e)).bind fun x e => (R.opt (seqD x) e).bind fun xs e => (evItems C ms e).bind fun ds e => .ok (xs ++ ds) e
  | .starV i :: ms, e => (R.opt ((datV e i).bind seqD) e).bind fun xs e => (evItems C ms e).bind fun ds e => .ok (xs ++ ds) e
def cLst (es : List Item) : Ex := fun C e => (evItems C es e).bind fun ds e => if decide (ds.length ≤ sizeLine) then .ok (.own ds) e else .no
def cTup (es : List Item) : Ex := fun C e => (evItems C es e).bind fun ds e => if decide (ds.length ≤ sizeLine) then .ok (.val (.tuple ds)) e else .no
def cSub : Ex → Ex → Ex := c2 gAt
def cSubV : Nat → Ex → Ex := c2V gAt
def intO : D → Option Int
  | .int i => some i
  | _ => none
def evO (C : Ctx) : Option Ex → Env → R (Option Int)
  | none, e => .ok none e
  | some m, e => (val (m C e)).bind fun x e => (R.opt (intO x) e).bind fun i e => .ok (some i) e
def datR (e : Env) (i : Nat) : Option D := match getS e i with
  | some (.rd ds) => some (.list ds)
  | some (.own ds) => some (.list ds)
  | some (.val d) => some d
  | none => none
def cSl (o : Ex) (lo hi : Option Ex) : Ex := fun C e => (val (o C e)).bind fun x e => (evO C lo e).bind fun l e => (evO C hi e).bind fun h e => opn (slD x l h) e
def cSlV (i : Nat) (lo hi : Option Ex) : Ex := fun C e => (R.opt (getS e i) e).bind fun _ e => (evO C lo e).bind fun l e => (evO C hi e).bind fun h e => opn ((datR e i).bind (slD · l h)) e
def cRev : Ex → Ex := c1 revD
def cRevV : Nat → Ex := c1V revD
def cBi (b : BI) (as : List Ex) : Ex := fun C e => (evs C as e).bind fun ds e => opn (biD b ds) e
def cBiV (b : BI) : Nat → Ex := c1V fun d => biD b [d]
def rgS (tp : Bool) : Option (List D) → Option Slot
  | some l => if decide (l.length ≤ 16777216) then some (if tp then .val (.tuple l) else .own l) else none
  | none => none
def cRg1 (tp : Bool) (a : Ex) : Ex := c1 (fun x => rgS tp (rangeD [x])) a
def cRg2 (tp : Bool) (a b : Ex) : Ex := c2 (fun x y => rgS tp (rangeD [x, y])) a b
/-- the receiver's type is looked at ahead of the arguments -/
def recv : MB → D → Option Unit
  | .index, .list _ => some ()
  | .count, .list _ => some ()
  | .index, _ => none
  | .count, _ => none
  | _, .str _ => some ()
  | _, _ => none
def cMb (m : MB) (o : Ex) (as : List Ex) : Ex := fun C e => (val (o C e)).bind fun x e => (R.opt (recv m x) e).bind fun _ e => (evs C as e).bind fun ds e => opn (mbD m x ds) e
def cMbV (m : MB) (i : Nat) (as : List Ex) : Ex := fun C e => (R.opt ((datV e i).bind (recv m)) e).bind fun _ e => (evs C as e).bind fun ds e => opn ((datV e i).bind fun x => mbD m x ds) e
def isObj : D → Bool
  | .dict _ => true
  | _ => false
def gIsi (ts : List Ty) : D → Option Slot := fun x => if isObj x then none else some (.val (.bool (ts.any (isTy x))))
def cIsi (ts : List Ty) : Ex → Ex := c1 (gIsi ts)
def cIsiV (ts : List Ty) : Nat → Ex := c1V (gIsi ts)
def fmtD : D → Option (List Nat)
  | .str y => some (cs y)
  | .int i => if numOk i then some (intCs i) else none
  | _ => none
def evF (C : Ctx) : List Ex → List Nat → Env → R (List Nat)
  | [], acc, e => .ok acc e
  | m :: ms, acc, e => (val (m C e)).bind fun x e => (R.opt (fmtD x) e).bind fun w e => if decide ((acc ++ w).length ≤ sizeLine) then evF C ms (acc ++ w) e else .no
def cFst (ps : List Ex) : Ex := fun C e => (evF C ps [] e).bind fun l e => .ok (.val (.str (S l))) e
def evA (C : Ctx) : List Arg → Env → R (List Slot)
  | [], e => .ok [] e
  | .ref i :: ms, e => (R.opt (getS e i) e).bind fun _ e => evA C ms e
  | .val m :: ms, e => (m C e).bind fun s e => (evA C ms e).bind fun ss e => .ok (s :: ss) e
/-- f(..): g puts the values in the parameters' order -/
def back (as : List Arg) (e : Env) : CR → R Slot
  | .ret s ps => .ok s (putBack as ps e)
  | .exc c ds ps => .exc c ds (putBack as ps e)
  | .no => .no
def cCall (f : Nat) (as : List Arg) : Ex := fun C e => (evA C as e).bind fun ss e => (R.opt (atCall as ss e) e).bind fun us e => back as e (C.call f us)
/-- f(a, k = b): the values alone, put in the parameters' order -/
def permute (p : List Nat) (ss : List D) : Option (List Slot) := p.mapM fun i => (ss[i]?).map Slot.val
def cCallK (f : Nat) (as : List Ex) (p : List Nat) : Ex := fun C e => (evs C as e).bind fun ss e => (R.opt (permute p ss) e).bind fun us e => back [] e (C.call f us)

def evC (C : Ctx) : Option Tx → Env → R Bool
  | none, e => .ok true e
  | some m, e => m C e
def lcTurn (C : Ctx) (t : MT) (c : Option Tx) (elt : Ex) (vs : List Nat) : D → Env → R (Option D) := fun x e => match bindT t x e with
  | some e => (evC C c e).bind fun k e => if k then (val (elt C e)).bind fun d e => .ok (some d) (wipeE e vs) else .ok none (wipeE e vs)
  | none => .no
def cLc (elt : Ex) (t : MT) (it : Ix) (c : Option Tx) (vs : List Nat) : Ex := fun C e => (it C e).bind fun xs e0 => if noOwn e0 vs then
    (noX (loopL (lcTurn C t c elt vs) 0 xs (wipeE e0 vs))).bind fun ds e => .ok (.own ds) (restE e0 e vs)
  else .no

/-! ### tests -/
def tVal (m : Ex) : Tx := fun C e => (val (m C e)).bind fun x e => R.opt (truthD x) e
def tAnd (a b : Tx) : Tx := fun C e => (a C e).bind fun k e => if k then b C e else .ok false e
def tOr (a b : Tx) : Tx := fun C e => (a C e).bind fun k e => if k then .ok true e else b C e
def tNot (a : Tx) : Tx := fun C e => (a C e).bind fun k e => .ok (!k) e

/-! ### what is walked -/
def iIt (m : Ex) : Ix := fun C e => (val (m C e)).bind fun x e => R.opt (itemsD x) e
def iRng1 (a : Ex) : Ix := fun C e => (val (a C e)).bind fun x e => R.opt (rangeD [x]) e
def iRng2 (a b : Ex) : Ix := fun C e => (val (a C e)).bind fun x e => (val (b C e)).bind fun y e => R.opt (rangeD [x, y]) e
def zipD : D → D → Option (List D)
  | .list xs, .list ys => some (List.zipWith (fun x y => .tuple [x, y]) xs ys)
  | .tuple xs, .tuple ys => some (List.zipWith (fun x y => .tuple [x, y]) xs ys)
  | _, _ => none
def iZip (a b : Ex) : Ix := fun C e => (val (a C e)).bind fun x e => (val (b C e)).bind fun y e => R.opt (zipD x y) e
def enmL : Nat → List D → List D
  | _, [] => []
  | k, x :: xs => .tuple [.int (k : Nat), x] :: enmL (k + 1) xs
def enmD : D → Option (List D)
  | .list xs => some (enmL 0 xs)
  | .tuple xs => some (enmL 0 xs)
  | _ => none
def iEnm (a : Ex) : Ix := fun C e => (val (a C e)).bind fun x e => R.opt (enmD x) e

/-! ### statements -/
def R.flow {α : Type} : R α → (α → Env → F) → F
  | .ok a e, f => f a e
  | .exc c ds e, _ => .exc c ds e
  | .no, _ => .no
def F.seq : F → (Env → F) → F
  | .next e, f => f e
  | r, _ => r
/-- behind a turn of a loop -/
def F.turn : F → (Env → F) → F
  | .next e, f => f e
  | .cont e, f => f e
  | .brk e, _ => .next e
  | r, _ => r
def whileL (c : Env → R Bool) (b : Env → F) : Nat → Env → F
  | 0, _ => .no
  | n + 1, e => (c e).flow fun k e => if k then (b e).turn (whileL c b n) else .next e
def forL (f : D → Env → F) : List D → Env → F
  | [], e => .next e
  | x :: xs, e => (f x e).turn (forL f xs)
/-- what a name holds of a value: owned, or as data -/
def keep : Bool → Slot → Option Slot
  | true, .own ds => some (.own ds)
  | _, s => s.dat.map .val
def setPar : List Nat → List Bool → List Slot → Env → Option Env
  | [], [], [], e => some e
  | i :: is, b :: bs, s :: ss, e => (keep b s).bind fun s => setPar is bs ss (e.set i (some s))
  | _, _, _, _ => none
def evSs (C : Ctx) : List Ex → Env → R (List Slot)
  | [], e => .ok [] e
  | m :: ms, e => (m C e).bind fun s e => (evSs C ms e).bind fun ss e => .ok (s :: ss) e
def orNo : Option F → F
  | some r => r
  | none => .no

def sAsg (i : Nat) (m : Ex) (own : Bool) : Sx := fun C e => (m C e).flow fun s e => orNo ((keep own s).map fun s => .next (e.set i (some s)))
def sAsgT (t : MT) (m : Ex) : Sx := fun C e => (val (m C e)).flow fun d e => orNo ((bindT t d e).map .next)
def sPar (is : List Nat) (ms : List Ex) (own : List Bool) : Sx := fun C e => (evSs C ms e).flow fun ss e => orNo ((setPar is own ss e).map .next)
def setD (o : Option Slot) (y d : D) : Option Slot := match o, y with
  | some (.own ds), .int k => (ixOf ds.length k).map fun j => .own (ds.set j d)
  | _, _ => none
def sSetIx (i : Nat) (ix m : Ex) : Sx := fun C e => (val (m C e)).flow fun d e => (R.opt (getS e i) e).flow fun _ e => (val (ix C e)).flow fun y e => orNo ((setD (getS e i) y d).map fun s => .next (e.set i (some s)))
def appD (o : Option Slot) (d : D) : Option Slot := match o with
  | some (.own ds) => if decide (ds.length < sizeLine) then some (.own (ds ++ [d])) else none
  | _ => none
def ownS (e : Env) (i : Nat) : Option Unit := match getS e i with
  | some (.own _) => some ()
  | _ => none
def sApp (i : Nat) (m : Ex) : Sx := fun C e => (R.opt (ownS e i) e).flow fun _ e => (val (m C e)).flow fun d e => orNo ((appD (getS e i) d).map fun s => .next (e.set i (some s)))
def sExp (m : Ex) : Sx := fun C e => (m C e).flow fun _ e => .next e
def sIf (c : Tx) (a b : Sx) : Sx := fun C e => (c C e).flow fun k e => if k then a C e else b C e
def sWhile (c : Tx) (b : Sx) : Sx := fun C e => whileL (c C) (b C) C.fuel e
def forTurn (C : Ctx) (t : MT) (b : Sx) : D → Env → F := fun x e => match bindT t x e with
  | some e => b C e
  | none => .no
def sFor (t : MT) (it : Ix) (b : Sx) : Sx := fun C e => (it C e).flow fun xs e => forL (forTurn C t b) xs e
def sRet (m : Ex) (own : Bool) : Sx := fun C e => (m C e).flow fun s e => orNo ((keep own s).map fun s => .ret s e)
def sRetN : Sx := fun _ e => .ret (.val .none) e
def sBrk : Sx := fun _ e => .brk e
def sCont : Sx := fun _ e => .cont e
def sPass : Sx := fun _ e => .next e
def sRaise (c : Nat) (as : List Ex) : Sx := fun C e => (evs C as e).flow fun ds e => .exc c ds e
def sNo : Sx := fun _ _ => .no
def sSeq (a b : Sx) : Sx := fun C e => (a C e).seq (b C)

/-- a def's end: the slots of the parameters that are handed by name -/
def maskP : List Bool → Env → Env
  | [], _ => []
  | _ :: bs, [] => none :: maskP bs []
  | b :: bs, s :: e => (if b then s else none) :: maskP bs e
def F.done (rp : List Bool) : F → CR
  | .next e => .ret (.val .none) (maskP rp e)
  | .ret s e => .ret s (maskP rp e)
  | .exc c ds e => .exc c ds (maskP rp e)
  | _ => .no
/-- rp: which parameters are handed by name; nl: the other names -/
structure MDef where
  rp : List Bool
  nl : Nat
  body : Sx
def runD (C : Ctx) (d : MDef) (us : List Slot) : CR := if us.length = d.rp.length then (d.body C (us.map some ++ List.replicate d.nl none)).done d.rp else .no
structure Prog where
  defs : List MDef
  fuel : Nat
def callF (C : Ctx) (us : List Slot) : Option MDef → CR
  | some d => runD C d us
  | none => .no
def call (P : Prog) : Nat → Nat → List Slot → CR
  | 0, _, _ => .no
  | n + 1, f, us => callF ⟨call P n, P.fuel⟩ us P.defs[f]?
end Ev
end
section
set_option linter.all false
set_option maxRecDepth 100000
/-! the evaluator, further: fields, properties and constructors of kept instances -/
namespace Ev
open PySem
def gFld (c : Str) (k : Nat) : D → Option Slot
  | .dict [(.str x, .tuple ds)] => if x = c then (ds[k]?).map .val else none
  | _ => none
def cFld (c : Str) (k : Nat) (a : Ex) : Ex := c1 (gFld c k) a
def isInst (c : Str) : D → Bool
  | .dict [(.str x, .tuple _)] => decide (x = c)
  | _ => false
def cPrp (c : Str) (fi : Nat) (a : Ex) : Ex := fun C e => (val (a C e)).bind fun d e => if isInst c d then noX (back [] e (C.call fi [.val d])) else .no
mutual
def noO : D → Bool
  | .list ds => noOs ds
  | .tuple ds => noOs ds
  | .dict _ => false
  | _ => true
def noOs : List D → Bool
  | [] => true
  | d :: ds => noO d && noOs ds
end
def okS : Option Slot → Bool
  | none => true
  | some (.val d) => noO d
  | _ => false
def fldB : D → Bool
  | .tuple ds => ds.all flat
  | d => flat d
inductive Stg where
  | set (m : Ex)
  | act (s : Sx)
def snap (c : Str) (fs : List D) : D := .dict [(.str c, .tuple fs)]
def newG (c : Str) (C : Ctx) : List Stg → List D → Env → CR
  | [], fs, _ => .ret (.val (snap c fs)) []
  | .set m :: r, fs, e => match m C (some (.val (snap c fs)) :: e) with
    | .ok (.val d) (_ :: e1) => if fldB d && e1.all okS then newG c C r (fs ++ [d]) e1 else .no
    | .exc x ds _ => .exc x ds []
    | _ => .no
  | .act s :: r, fs, e => match s C (some (.val (snap c fs)) :: e) with
    | .next (_ :: e1) => if e1.all okS then newG c C r fs e1 else .no
    | .exc x ds _ => .exc x ds []
    | _ => .no
def bNew (c : Str) (g : List Stg) (loc : Nat) : Sx := fun C e => if e.all okS then (match newG c C g [] (e ++ List.replicate loc none) with
  | .ret s _ => .ret s e
  | .exc x ds _ => .exc x ds e
  | .no => .no) else .no
/-- list(zip(a, b)) of two lists -/
def lzD : D → D → Option Slot
  | .list xs, .list ys => some (.own (List.zipWith (fun x y => .tuple [x, y]) xs ys))
  | _, _ => none
def cLz (a b : Ex) : Ex := c2 lzD a b
/-- sorted(set(l)) -/
def insS (x : Int) : List Int → List Int
  | [] => [x]
  | y :: ys => if x < y then x :: y :: ys else if x = y then y :: ys else y :: insS x ys
def sortS : List Int → List Int
  | [] => []
  | x :: xs => insS x (sortS xs)
def ssD : D → Option Slot
  | .list xs => match intsD xs with
    | some l => if decide (l.length < 1000) && decide ((sortS l).length < 64) then some (.own ((sortS l).map .int)) else none
    | none => none
  | _ => none
def cSs (a : Ex) : Ex := c1 ssD a
/-- l.pop(k), l owned -/
def popD (o : Option Slot) (y : D) : Option (List D × D) := match o, y with
  | some (.own ds), .int k => if rngOk k then (ixOf ds.length k).bind fun j => (ds[j]?).map fun d => (ds.eraseIdx j, d) else none
  | _, _ => none
def popK (i : Nat) : D → Env → R Slot := fun y e => match popD (getS e i) y with
  | some p => .ok (.val p.2) (e.set i (some (.own p.1)))
  | none => .no
def cPop (i : Nat) (ix : Ex) : Ex := fun C e => (R.opt (ownS e i) e).bind fun _ e => (val (ix C e)).bind (popK i)
/-- l.extend(m), l owned -/
def extD (o : Option Slot) (y : D) : Option Slot := match o, y with
  | some (.own ds), .list es => if decide (ds.length + es.length ≤ sizeLine) then some (.own (ds ++ es)) else none
  | _, _ => none
def sExt (i : Nat) (m : Ex) : Sx := fun C e => (R.opt (ownS e i) e).flow fun _ e => (val (m C e)).flow fun d e => orNo ((extD (getS e i) d).map fun s => .next (e.set i (some s)))
/-- len(x), x a kept instance, or not -/
def lenK : Slot → Env → R Slot
  | .val (.int k), e => if decide (0 ≤ k) && decide (k < 2 ^ 62) then .ok (.val (.int k)) e else .no
  | _, _ => .no
def cLenI (c : Str) (fi : Nat) (a : Ex) : Ex := fun C e => (val (a C e)).bind fun d e => if isInst c d then (noX (back [] e (C.call fi [.val d]))).bind lenK else opn (biD .len [d]) e
/-- the value of the field f, in a row of pairs -/
def xfL (f : Str) : List D → Option D
  | .tuple [.str g, d] :: r => if g = f then some d else xfL f r
  | _ => none
/-! ### exceptions: raised, caught and kept, their fields, isinstance -/
/-- the fields' names with their values -/
def zipX : List Str → List D → List D
  | f :: fs, d :: ds => .tuple [.str f, d] :: zipX fs ds
  | _, _ => []
def xD (nm : Str) (fs : List Str) (ds : List D) : D := .dict [(.str nm, .list (zipX fs ds))]
/-- raise X(..), X the c-th class, n its fields -/
def sRaiseX (c n : Nat) (as : List Ex) : Sx := fun C e => (evs C as e).flow fun ds e => if ds.all flat && decide (ds.length = n) then .exc c ds e else .no
abbrev ExT := List (Str × List Str)
/-- what becomes of an exception that a clause catches -/
def catchX (xs : ExT) (i v c : Nat) (ds : List D) (e : Env) : F := match xs[c]? with
  | some p => if decide (i < e.length) then .next (((e.set i none).set v (some (.val (xD p.1 p.2 ds)))).set i none) else .no
  | none => .no
/-- try: b / except (..) as i: v = i -/
def sTry (xs : ExT) (hits : List Nat) (i v : Nat) (b : Sx) : Sx := fun C e => match b C e with
  | .exc c ds e' => if hits.contains c then catchX xs i v c ds e' else .exc c ds e'
  | r => r
def hasX (xs : ExT) (nm f : Str) : Bool := xs.any fun p => p.1 == nm && p.2.contains f
def gXf (xs : ExT) (f : Str) : D → Option Slot
  | .dict [(.str nm, .list l)] => if hasX xs nm f then (xfL f l).map .val else none
  | _ => none
/-- x.f, x an exception -/
def cXf (xs : ExT) (f : Str) (a : Ex) : Ex := c1 (gXf xs f) a
/-- isinstance(x, T), x an exception: the classes below T, the others -/
def gIsX (yes no : List Str) : D → Option Slot
  | .dict [(.str nm, .list _)] => if yes.contains nm then some (.val (.bool true)) else if no.contains nm then some (.val (.bool false)) else none
  | _ => none
def cIsX (yes no : List Str) (a : Ex) : Ex := c1 (gIsX yes no) a
end Ev
end
section
set_option linter.all false
set_option maxRecDepth 100000
set_option maxHeartbeats 4000000
/-! an exception's object, known by its class and its dict -/
namespace L2
open PySem PySem.Spec PyProof.Rows
/-- an exception's object: its class, its dict -/
def xob (a : Addr) (cls : Value) (d : Option Addr) : HO := .ext fun h => ∃ oe vs, h.get? a = some oe ∧ Zc cls d oe ∧ oe.data = .fields vs
theorem xob_ok {P : Program} {w : World} {H : Hp} {h : Heap} {a : Addr} {cls : Value} {d : Option Addr} {oe : Obj} {vs : Array Value} (he : h.get? a = some oe) (hz : Zc cls d oe) (hd : oe.data = .fields vs) : ObjOk P w H h a (xob a cls d) :=
  ⟨⟨oe, vs, he, hz, hd⟩, ⟨_, he⟩, fun h1 h2 ⟨oe, vs, e, z, d⟩ k => ⟨oe, vs, k _ e, z, d⟩⟩
theorem xob_at {P : Program} {w : World} {H : Hp} {h : Heap} {a : Addr} {cls : Value} {d : Option Addr} (hok : HOk P w H h) (he : H a = some (xob a cls d)) : ∃ oe vs, h.get? a = some oe ∧ Zc cls d oe ∧ oe.data = .fields vs := by
  have x : ObjOk P w H h a (.ext fun h => ∃ oe vs, h.get? a = some oe ∧ Zc cls d oe ∧ oe.data = .fields vs) := hok a _ he
  exact x.1

end L2
end
section
set_option linter.all false
set_option maxRecDepth 100000
set_option maxHeartbeats 4000000
/-! t[::-1] of a tuple or a list -/
namespace L2
open PySem PySem.Spec PyProof.Rows HT
section
variable {prog : Program} {w : World} {A : Around} {E : Value → Shared → Prop} {s : Shared}
theorem sliceApplied_back {sl : Addr} {u : Tok} {n : Nat} {Q : Int × Int × Nat → Shared → Prop} {vl vu vs : Value} (hs : s.heap.IsSliceOf sl vl vu vs) (pl : IsPart vl none) (pu : IsPart vu none) (pv : IsPart vs (some (-1)))
    (h : Q ((n : Int) - 1, -1, n) s) : wpAny (model prog w) A (Builtin.Slice.sliceApplied (.ref sl) (pure (n : Int))) Q E s := by
  obtain ⟨os, hos, hcs, hds⟩ := id hs
  unfold Builtin.Slice.sliceApplied Builtin.Slice.sliceFields
  refine wpAny_bind (wpAny_bind (wpAny_field hos hds (x := vl) rfl (wpAny_bind (wpAny_field hos hds (x := vu) rfl (wpAny_bind (wpAny_field hos hds (x := vs) rfl (wpAny_pure ?_)))))))
  refine wpAny_bind (slicePart_ pv ?_)
  show wpAny _ _ (if ((-1 : Int) == 0) = true then _ else _) _ _ s
  rw [if_neg (by decide)]
  refine wpAny_bind (slicePart_ pl (wpAny_bind (slicePart_ pu (wpAny_bind (wpAny_pure ?_)))))
  have e1 : Builtin.Slice.sliceAdjust none none (-1) (n : Int) = ((n : Int) - 1, -1) := rfl
  show wpAny _ _ (match Builtin.Slice.sliceAdjust none none (-1) (n : Int) with | (lo, hi) => pure (lo, (-1 : Int), Builtin.Slice.slicePlaces lo hi (-1))) _ _ s
  rw [e1]
  show wpAny _ _ (pure ((n : Int) - 1, (-1 : Int), Builtin.Slice.slicePlaces ((n : Int) - 1) (-1) (-1))) _ _ s
  have e2 : Builtin.Slice.slicePlaces ((n : Int) - 1) (-1) (-1) = n := by
    unfold Builtin.Slice.slicePlaces
    rw [if_neg (by omega)]
    by_cases q : (n : Int) - 1 > -1
    · rw [if_pos q, show (- -1 : Int) = 1 by decide, Int.ediv_one]; omega
    · rw [if_neg q]; omega
  rw [e2]
  exact wpAny_pure h
theorem fm_congr {α β : Type} {f g : α → Option β} : ∀ {l : List α}, (∀ x ∈ l, f x = g x) → l.filterMap f = l.filterMap g
  | [], _ => rfl
  | x :: l, h => by
    have e := h x (List.mem_cons_self ..)
    have t := fm_congr (l := l) fun y hy => h y (List.mem_cons_of_mem _ hy)
    rw [List.filterMap_cons, List.filterMap_cons, e, t]
theorem pick_back (xs : Array Value) : ((List.range xs.size).filterMap fun (m : Nat) => xs[(((xs.size : Int) - 1) + (m : Int) * (-1)).toNat]?).toArray = xs.toList.reverse.toArray := by
  have e : (List.range xs.size).filterMap (fun (m : Nat) => xs[(((xs.size : Int) - 1) + (m : Int) * (-1)).toNat]?) = (((List.range xs.size).map fun k => xs.size - 1 - k).filterMap (xs[·]?)) := by
    rw [List.filterMap_map]
    refine fm_congr fun m hm => ?_
    have := List.mem_range.mp hm
    show xs[_]? = xs[_]?
    rw [show (((xs.size : Int) - 1) + (m : Int) * (-1)).toNat = xs.size - 1 - m by omega]
  rw [e, PySem.W.krv_range, List.filterMap_reverse, PySem.W.krv_all]
theorem getItem_tuple_back {t sl : Addr} {items : Array Value} {vl vu vs : Value} {Q : Value → Shared → Prop} (ht : IsTup s.heap t items) (hs : s.heap.IsSliceOf sl vl vu vs) (pl : IsPart vl none) (pu : IsPart vu none) (pv : IsPart vs (some (-1)))
    (h : Q (.ref s.heap.objs.size) { s with heap := s.heap.push { cls := .type "tuple", data := .seq items.toList.reverse.toArray } })
    (hsz : items.size ≤ sizeLine) : wpAny (model prog w) A (getItem (.ref t) (.ref sl)) Q E s := by
  have htake : sizeOk (.seq items.toList.reverse.toArray) := by
    show items.toList.reverse.toArray.size ≤ sizeLine
    rw [List.size_toArray, List.length_reverse, Array.length_toList]
    exact hsz
  obtain ⟨os, hos, hcs, hds⟩ := id hs
  have hTs : s.TypeIs (.ref sl) "slice" := ⟨os, hos, hcs⟩
  unfold getItem
  try with_reducible refine wpAny_holding ?_
  first | refine wpAny_bind (wpAny_pure ?_) | skip
  refine wpAny_bind (wpAny_sequenceKey ht.typeIs (by decide) ?_)
  refine wpAny_bind (wpAny_callSpecial?_slot (name := Str.ofString "__getitem__") ht.typeIs PyProof.Rows.slot_tuple_getitem
    (wpAny_call_entry PyProof.Rows.slot_tuple_getitem ht.typeIs entry_tuple_getitem ?_ (args_tuple_getitem _ _)))
  show wpAny _ _ (Builtin.Tuple.tupleItemsOf (.ref t) >>= _) _ _ s
  refine wpAny_bind (tupleItemsOf_ ht ?_)
  refine wpAny_bind (wpAny_typeOf hTs ?_)
  rw [if_pos (by decide)]
  refine wpAny_bind (sliceApplied_back (u := 0) hs pl pu pv ?_)
  have hno : ¬ ((((items.size : Int) - 1) == 0 && (-1 : Int) == 1 && items.size == items.size) = true) := by
    intro q
    rw [Bool.and_eq_true, Bool.and_eq_true] at q
    exact absurd (eq_of_beq q.1.2) (by decide)
  show wpAny _ _ (if (((items.size : Int) - 1) == 0 && (-1 : Int) == 1 && items.size == items.size) = true then _ else _) _ _ s
  rw [if_neg hno, pick_back]
  first
    | exact wpAny_bind (m := Builtin.Tuple.tupleExact _) (wpAny_newObj_type (wpAny_pure ⟨_, rfl, wpAny_pure h⟩) htake)
    | exact wpAny_bind (m := Builtin.Tuple.tupleExact _) (wpAny_newObj_type (wpAny_bind (wpAny_pure (wpAny_pure ⟨_, rfl, wpAny_pure h⟩))) htake)
    | exact wpAny_bind (wpAny_bind (m := Builtin.Tuple.tupleExact _) (wpAny_newObj_type (wpAny_pure (wpAny_pure ⟨_, rfl, wpAny_pure h⟩)) htake))
    | exact wpAny_bind (wpAny_bind (m := Builtin.Tuple.tupleExact _) (wpAny_newObj_type (wpAny_pure ⟨_, rfl, wpAny_pure h⟩) htake))
end
section
variable {X : Cx}
def tRevLT (K : PySem.W.Frag) (te : TE) : TE := fun σ H Q => te σ H fun x H1 => (∃ a xs, x = .ref a ∧ SqL K H1 a xs ∧ ∀ p, H1 p = none → Q (.ref p) (upd H1 p (.lst xs.reverse))) ∨
  (∃ a xs, x = .ref a ∧ SqT K H1 a xs ∧ ∀ p, H1 p = none → Q (.ref p) (upd H1 p (.tup xs.reverse)))
theorem pe_revLT {e : Expr} {te : TE} {k : Nat} {p1 p2 p3 pos : Pos} (he : PE X e te) : PE X (.Subscript e (.Slice none none (some (.UnaryOp .USub (.Constant (.int 1) k p1) p2)) p3) pos) (tRevLT X.K te) := by
  refine ⟨fun pins s σ H Q I h => ?_⟩
  refine Subscript_ (thn (he.run pins s σ H _ I h) fun v s1 ⟨x, H1, I1, r1, q1⟩ => ?_)
  have hst : PO X (some (.UnaryOp .USub (.Constant (.int 1) k p1) p2)) (tPart (tUn (rU fun i => .int (-i)) (tC (.int 1)))) := po_some (pe_un un_neg pe_int)
  refine wpAny_Slice (thn (po_none.run pins s1 σ H1 (fun o H2 => o = none ∧ H2 = H1) I1 ⟨rfl, rfl⟩) fun vl s2 ⟨l, H2, I2, pl, el, e2⟩ => ?_)
  subst el e2
  refine thn (po_none.run pins s2 σ H2 (fun o H3 => o = none ∧ H3 = H2) I2 ⟨rfl, rfl⟩) fun vu s3 ⟨u, H3, I3, pu, eu, e3⟩ => ?_
  subst eu e3
  refine thn (hst.run pins s3 σ H3 (fun o H4 => o = some (-1) ∧ H4 = H3) I3 ⟨1, rfl, -1, rfl, rfl, rfl⟩) fun vs s4 ⟨o, H4, I4, ps, eo, e4⟩ => ?_
  subst eo e4
  have I5 : Inv X pins σ H4 { s4 with heap := s4.heap.push { cls := .type "slice", data := .fields #[vl, vu, vs] } } := I4.kept (t' := s4.toks) fun b ob q => Heap.get?_push_of_some _ q
  rcases q1 with ⟨a, xs, ex, hx, q⟩ | ⟨a, xs, ex, hx, q⟩
  · subst ex
    cases r1
    obtain ⟨its, r, ht, hz⟩ := I5.list hx
    have hlen := r.length
    show wpAny (model X.prog X.w) X.A (subscriptTail e (.Slice none none (some (.UnaryOp .USub (.Constant (.int 1) k p1) p2)) p3) (.ref a) (.ref s4.heap.objs.size)) (EP X pins σ Q) X.xe { s4 with heap := s4.heap.push { cls := .type "slice", data := .fields #[vl, vu, vs] } }
    refine tail_any (ops := [.ref a, .ref s4.heap.objs.size]) ht.isList.typeIs (PySem.slot_list_getitem.lookup) ?_ (by with_unfolding_all rfl)
    refine wpAny_getItem_list_slice ht.isList (Heap.IsSliceOf.new _ vl vu vs) pl pu ps (by decide) ?_ (by rw [List.size_toArray]; omega)
    rw [PySem.W.krv_pick]
    refine ⟨.ref _, _, I5.laid (t' := s4.toks) (o := .lst xs.reverse) (fun b ob q => Heap.get?_push_of_some _ q) (Nat.le_refl _) ?_, rfl, q _ (I5.hok.fresh (Nat.le_refl _))⟩
    exact ⟨by rw [List.length_reverse]; exact hz, _, 0, r.reverse, Heap.get?_push_size _ rfl⟩
  · subst ex
    cases r1
    obtain ⟨its, r, ht, hz⟩ := I5.tuple hx
    have hlen := r.length
    show wpAny (model X.prog X.w) X.A (subscriptTail e (.Slice none none (some (.UnaryOp .USub (.Constant (.int 1) k p1) p2)) p3) (.ref a) (.ref s4.heap.objs.size)) (EP X pins σ Q) X.xe { s4 with heap := s4.heap.push { cls := .type "slice", data := .fields #[vl, vu, vs] } }
    refine tail_any (ops := [.ref a, .ref s4.heap.objs.size]) ht.typeIs (PyProof.Rows.slot_tuple_getitem.lookup) ?_ (by with_unfolding_all rfl)
    refine getItem_tuple_back ht (Heap.IsSliceOf.new _ vl vu vs) pl pu ps ?_ (by rw [List.size_toArray]; omega)
    refine ⟨.ref _, _, I5.laid (t' := s4.toks) (o := .tup xs.reverse) (fun b ob q => Heap.get?_push_of_some _ q) (Nat.le_refl _) ?_, rfl, q _ (I5.hok.fresh (Nat.le_refl _))⟩
    exact ⟨by rw [List.length_reverse]; exact hz, _, r.reverse, IsTup.new _ _⟩
end
/-! sum of a tuple -/
section
variable {prog : Program} {w : World} {A : Around} {E : Value → Shared → Prop} {s : Shared} {l : Addr} {its : List Value} {ns : List Int} {Q : Value → Shared → Prop}
theorem sum_rawT (hh : A.handled = none) (hl : s.heap.IsTuple l its.toArray) (hi : IntsAre its ns)
    (h : ∀ h' tk t', (∀ b o, s.heap.get? b = some o → h'.get? b = some o) → Q (.int ns.sum t') { s with heap := h', toks := tk }) : wpAny (model prog w) A (call (.builtin "sum") [.ref l]) Q E s := by
  obtain ⟨xs, e⟩ := hi.allInts.items
  have hn : numsOf (intItems xs).toList = ns := by rw [← e]; exact hi.numsOf
  rw [nums_intItems] at hn
  rw [e] at hl
  refine PySem.W.ktm_sumG hh hl fun h' tk t' hk => ?_
  have := h h' tk t' hk
  rw [preSum_eq, List.take_of_length_le (by simp), hn]; exact this
end
section
variable {X : Cx}
def rSumT (K : PySem.W.Frag) : List V → Hp → VK → Prop := fun vs H Q => ∃ (a : Addr) (ns : List Int), vs = [V.ref a] ∧ SqT K H a (ns.map V.int) ∧ Q (.int ns.sum) H
theorem cr_sumT (hc : X.calm = true) : CallR X (.builtin "sum") (rSumT X.K) := by
  intro pins s σ H vs us Q I r h
  obtain ⟨a, ns, rfl, hs, q⟩ := h
  obtain ⟨its, rv, hl, _⟩ := I.tuple hs
  rw [Vals.ref1 r]
  exact sum_rawT (I.ok.hd hc) (show s.heap.IsTuple a its.toArray from hl) rv.ints fun h' tk t' hk => ⟨.int _, H, I.kept hk, ⟨_, rfl⟩, q⟩
end
end L2
end
section
set_option linter.all false
set_option maxRecDepth 100000
set_option maxHeartbeats 4000000
/-! a tuple once, or an empty one many times: the same object -/
namespace L2
open PySem PySem.Spec PyProof.Rows
theorem tuple_mulS (l : Addr) (items : Array Value) (n : Nat) (dd : Option Addr) (sl : Array (Option Value)) (x : Int) (u : Tok) (c0 : (decide (x < -(2 ^ 63)) || decide (x ≥ 2 ^ 63)) = false) (c1 : (items.isEmpty || x == 1) = true) :
    Meets (Builtin.«tuple.__mul__» ⟨[.ref l, .int x u], []⟩) (fun _ R s => s.heap.get? l = some { cls := .type "tuple", dict := dd, data := .seq items n, slots := sl } ∧ R (.ok (.ret (Value.ref l))) s) :=
  .of_wp fun prog w A R s h => by
    obtain ⟨hp, g, d, tk, os⟩ := s
    obtain ⟨hl, h⟩ := h
    have f1 := AutoSeq1.idx_int
    wp_walk using wpAny_loadPart' hl
    repeat (first
      | (refine wpAny_ite_false (decide_eq_false (by rw [c0]; exact Bool.false_ne_true)) ?_; wp_walk using wpAny_loadPart' hl)
      | (refine wpAny_ite_true (decide_eq_true c1) ?_; wp_walk using wpAny_loadPart' hl))
    exact ⟨_, rfl, h⟩
def rRepS (K : PySem.W.Frag) : R2 := fun x y H Q => ∃ l k xs, x = .ref l ∧ y = .int k ∧ SqT K H l xs ∧ (xs = [] ∨ k = 1) ∧ -(2 ^ 62) ≤ k ∧ k < 2 ^ 62 ∧ Q (.ref l) H
variable {X : Cx}
theorem op_repS : OpR X (binaryOp .Mult) (rRepS X.K) := by
  intro pins s σ H x y v u Q I rx ry h
  obtain ⟨l, k, xs, rfl, rfl, hT, hne, h1, h2, q⟩ := h
  cases rx
  obtain ⟨t, rfl⟩ := ry
  obtain ⟨its, r, ⟨⟨cls, dd, data, sl⟩, ho, hc, n, hd⟩, hs⟩ := I.tuple hT
  simp only at hc hd
  subst hc hd
  have hle : its.length = xs.length := r.length.symm
  have c0 : (decide (k < -(2 ^ 63)) || decide (k ≥ 2 ^ 63)) = false := by
    rw [decide_eq_false (by omega), decide_eq_false (by omega)] <;> rfl
  have c1 : (its.toArray.isEmpty || k == 1) = true := by
    rcases hne with e | e
    · subst e
      have : its = [] := List.eq_nil_of_length_eq_zero hle
      subst this; rfl
    · subst e; simp
  refine wpAny_binaryOp_repeat_ref (T := "tuple") (U := "int") (by decide) ⟨_, ho, rfl⟩ (fun s' => typeIs_int s' k t) noFill_tuple_mul F.fills_int_mul F.slot_int_rmul repeat_tuple F.slot_int_index.lookup
    (call_meets F.slot_int_rmul (typeIs_int s k t) F.entry_int_rmul (F.args_int_rmul_2 _ _) (int_rmul_tuple k t l its.toArray n dd sl)
      ⟨ho, rfl, ⟨_, ho, rfl⟩, call_meets F.slot_tuple_mul ⟨_, ho, rfl⟩ F.entry_tuple_mul (F.args_tuple_mul_2 _ _) (tuple_mulS l its.toArray n dd sl k t c0 c1) ⟨ho, ?_⟩⟩)
  exact ⟨.ref l, H, I, rfl, q⟩
end L2
end
section
set_option linter.all false
set_option maxRecDepth 100000
/-! enumerate over a tuple -/
namespace L2e
open PySem PySem.Spec PyProof.Rows L2
set_option maxHeartbeats 2000000 in
theorem mk_enum {x : Value} {ob : Obj} {G : Heap → Prop} (bg : Begins x ob G) :
    Meets (Builtin.«enumerate.__new__» ⟨[.type "enumerate", x], []⟩) (fun _ R s => G s.heap ∧
      R (.ok (.ret (.ref (s.heap.push ob).objs.size)))
        { s with heap := (s.heap.push ob).push { cls := .type "enumerate", data := .fields #[.none, .bool false, .ref s.heap.objs.size, rawInt 0, .none, .none] } }) :=
  .of_wp fun pr wo Ar Rr st hy => by
    obtain ⟨hh, gg, dd, tt, oo⟩ := st
    obtain ⟨hy1, hy⟩ := hy
    have sb := sub_enumerate
    have it : ∀ {A' : Around} {E : Value → Shared → Prop} {Q : Value → Shared → Prop}, Q (.ref hh.objs.size) ⟨hh.push ob, gg, dd, tt, oo⟩ → wpAny (model pr wo) A' (pyIter x) Q E ⟨hh, gg, dd, tt, oo⟩ :=
      fun q => bg.iter pr wo _ _ ⟨hh, gg, dd, tt, oo⟩ _ hy1 q
    wp_walk using it
    refine wpAny_stack_any fun _ => wpAny_pure ?_
    split
    · rename_i cl _ _ _ _ _
      cases (cl == Value.type "enumerate") <;> (wp_walk using it) <;> exact ⟨_, rfl, hy⟩
    · wp_walk using it
      exact ⟨_, rfl, hy⟩
section
variable {prog : Program} {w : World} {A : Around} {E : Value → Shared → Prop} {s : Shared}
theorem enum_made {x : Value} {ob : Obj} {G : Heap → Prop} {Q : Value → Shared → Prop} (bg : Begins x ob G) (hG : G s.heap)
    (q : ∀ h', IsEnum h' (s.heap.objs.size + 1) s.heap.objs.size 0 .none → h'.get? s.heap.objs.size = some ob → (∀ b o, s.heap.get? b = some o → h'.get? b = some o) → Q (.ref (s.heap.objs.size + 1)) { s with heap := h' }) :
    wpAny (model prog w) A (call (.type "enumerate") [x]) Q E s := by
  refine callType_new F.called_enumerate (by decide) (F.typeCall_enumerate_1 _) (F.newCall_enumerate_1 _) (fun o => F.args_object_init_2 o _) F.entry_enumerate_new (mk_enum bg) ⟨hG, ?_⟩
  have sz : (s.heap.push ob).objs.size = s.heap.objs.size + 1 := Heap.size_push ..
  show _ ∧ _
  rw [sz]
  have made : IsEnum ((s.heap.push ob).push { cls := .type "enumerate", data := .fields #[.none, .bool false, .ref s.heap.objs.size, rawInt 0, .none, .none] }) (s.heap.objs.size + 1) s.heap.objs.size 0 .none := by
    have z := Heap.get?_push_size (s.heap.push ob) (o := { cls := .type "enumerate", data := .fields #[.none, .bool false, .ref s.heap.objs.size, rawInt 0, .none, .none] }) rfl
    rw [sz] at z
    exact z
  exact ⟨⟨_, made, rfl⟩, q _ made (Heap.get?_push_of_some _ (Heap.get?_push_size _ bg.free)) fun b o z => Heap.get?_push_of_some _ (Heap.get?_push_of_some _ z)⟩
end
/-- the tuple at a, each item in a new pair -/
def IteT (K : PySem.W.Frag) (a : Addr) : It :=
  ⟨fun i H => ∃ (xs : List V) (x : V), SqT K H a xs ∧ xs[i]? = some x, fun i H v H' => ∃ T x, v = .ref T ∧ H T = none ∧ H' = upd H T (.tup [.int (i : Nat), x]) ∧ ∀ xs, SqT K H a xs → xs[i]? = some x,
   fun i H => ∃ xs : List V, SqT K H a xs ∧ xs.length ≤ i⟩
theorem turnT {P : Program} {w : World} {K : PySem.W.Frag} {elts : List Expr} {kk : Nat} {tpos : Pos} (a e it : Addr) :
    Turn P w K (.Tuple elts kk tpos) (IteT K a) [e, it] e (fun i h => (∃ old, IsEnum h e it ((i : Nat) : Int) old) ∧ h.IsTupleIter it a i ∧ e ≠ it ∧ a ≠ e ∧ a ≠ it) where
  mem := by simp
  obj := fun i h st b hb => by
    obtain ⟨⟨old, he⟩, ⟨o, ho, hc, hd⟩, _⟩ := st
    rcases (by simpa using hb : b = e ∨ b = it) with z | z
    · rw [z]; exact ⟨_, he, fun v q => nomatch q⟩
    · rw [z]; exact ⟨o, ho, fun v q => by rw [hd] at q; cases q⟩
  keep := fun i h h' st k => by
    obtain ⟨⟨old, he⟩, hi, hn⟩ := st
    exact ⟨⟨old, k e (by simp) _ he⟩, hi.at fun o q => k it (by simp) o q, hn⟩
  item := by
    intro X hP hw hK hc i pins s σ H E I hf st hg
    subst hP hw hK
    obtain ⟨⟨old, he⟩, hit, hne, hae, hai⟩ := st
    obtain ⟨xs, x, hq, hx⟩ := hg
    obtain ⟨its, rv, p, hz⟩ := I.tuple hq
    obtain ⟨u, hu, ru⟩ := rv.get hx
    have lt : i < its.toArray.size := by
      have := (List.getElem?_eq_some_iff.mp hu).1
      simpa using this
    refine wpAny_pyNext_enum_itemD (fp := [it, a]) (Draws.tuple (A := X.A.in1) (show X.A.in1.handled = none from I.ok.hd hc) it a hai its.toArray) he ⟨hit, p⟩ lt hne (by simp [hne, hae.symm]) fun y h' tk hy ho hst hT hsz hk => ?_
    have ey : y = u := by
      have : its[i]? = some y := by simpa using hy
      rw [hu] at this
      exact (Option.some.inj this).symm
    subst ey
    have el : e < s.heap.objs.size := Heap.lt_size he
    have il : it < s.heap.objs.size := by obtain ⟨_, q, _⟩ := hit; exact Heap.lt_size q
    refine ⟨_, rfl, wpAny_letOwnedTupleGo_enum (s := { s with heap := h', toks := tk + 1 }) ho fun h'' he' sb => ?_⟩
    have hT2 : h''.get? s.heap.objs.size = some { cls := .type "tuple", data := .seq #[.int i tk, y] } := (sb.2 _ (Nat.ne_of_gt el)).trans hT
    have new : ObjOk X.prog X.w (upd H s.heap.objs.size (.tup [.int (i : Nat), x])) h'' s.heap.objs.size (.tup [.int (i : Nat), x]) :=
      ⟨by show 2 ≤ sizeLine; decide, [.int i tk, y], .cons ⟨_, rfl⟩ (.cons ru .nil), ⟨_, hT2, rfl, _, rfl⟩⟩
    have I1 : Inv X pins σ (upd H s.heap.objs.size (.tup [.int (i : Nat), x])) { s with heap := h'', toks := tk + 1 } :=
      I.turnedNew (ch := [e, it]) (fun b ob hb q => (sb.2 b (fun z => hb (by simp [z]))).trans (hk b ob (fun z => hb (by simp [z])) (fun z => hb (by simp [z])) q)) hf (Nat.le_refl _) new
    refine ⟨.ref s.heap.objs.size, _, I1, rfl, ⟨_, x, rfl, I.hok.fresh (Nat.le_refl _), rfl, fun ys hy => by rw [I.tuple_inj hy hq]; exact hx⟩, ⟨⟨y, ?_⟩, hst.1.at fun o q => (sb.2 it (Ne.symm hne)).trans q, hne, hae, hai⟩, fun b hb => ?_⟩
    · rw [show ((i + 1 : Nat) : Int) = (i : Int) + 1 by omega]; exact he'
    · have hb' : b < s.heap.objs.size := by
        rcases (by simpa using hb : b = e ∨ b = it) with z | z
        · rw [z]; exact el
        · rw [z]; exact il
      rw [upd_ne (Nat.ne_of_lt hb')]
      exact (hf b hb).1
  done := by
    intro X hP hw hK hc i pins s σ H E I hf st hg
    subst hP hw hK
    obtain ⟨⟨old, he⟩, hit, hne, hae, hai⟩ := st
    obtain ⟨xs, hq, hx⟩ := hg
    obtain ⟨its, rv, p, hz⟩ := I.tuple hq
    obtain ⟨f0, f1, f2, f3, f4, f5⟩ := hf it (by simp)
    have hl := rv.length
    have hT : s.TypeIs (.ref e) "enumerate" := ⟨_, he, rfl⟩
    have none_ : its.toArray[i]? = none := by simp; omega
    unfold pyNext
    refine wpAny_bind (wpAny_attempt (wpAny_callSpecial?_slot (name := Str.ofString "__next__") hT F.slot_enumerate_next (wpAny_call_entry F.slot_enumerate_next hT F.entry_enumerate_next ?_ (F.args_enumerate_next_1 _))))
    show wpAny _ _ (field (.ref e) 2 >>= _) _ _ _
    refine wpAny_bind (wpAny_field he rfl (x := .ref it) rfl ?_)
    refine wpAny_bind (wpAny_nextOf_tuple_end (I.ok.hd hc) hit p none_ fun h' z hz' hx' => ?_)
    obtain ⟨o, ho, hcls⟩ := hx'
    refine wpAny_bind (wpAny_isInstance (T := "StopIteration") (b := true) ⟨o, ho, hcls⟩ isSubtype_stop ?_)
    exact wpAny_pure ⟨rfl, I.turned (t' := s.toks) (fun b o hb q => hz' b o hb q) f0 f1 f3 f4 f5⟩
  self := fun A i s Q E st h => let ⟨⟨_, he⟩, _⟩ := st; wpAny_pyIter_enum he h
/-- enumerate of a list or of a tuple -/
def iEnumA (K : PySem.W.Frag) (ta : TA) : TI := fun σ H R => ta σ H fun vs H1 => ∃ a xs, vs = [.ref a] ∧ ((SqL K H1 a xs ∧ R (Ite K a) H1) ∨ (SqT K H1 a xs ∧ R (IteT K a) H1))
theorem pi_enumA {X : Cx} {e : Expr} {ta : TA} {p pos tpos : Pos} {elts : List Expr} {kk : Nat} (hg : Gl X "enumerate") (hm : X.mg "enumerate" = none) (ha : PA X [e] ta) (hs : starEach [e] X.env = [(false, eval e X.env)] := by rfl) :
    PI X (.Tuple elts kk tpos) (.Call (.Name "enumerate" p) [e] [] pos) (iEnumA X.K ta) := by
  refine ⟨fun pins s σ H R I h => ?_⟩
  refine Call_ (ld_blt I hg hm boot_enumerate (PyProof.Rows.callWith_type1 (thn (ha.run pos pins s σ H _ I h) fun us s1 ⟨vs, H1, I1, r1, q1⟩ => ?_) hs rfl))
  obtain ⟨a, xs, ex, q1⟩ := q1
  subst ex
  cases r1 with
  | cons r rr =>
    cases rr
    cases r
    have fp : ∀ b, b ∈ [s1.heap.objs.size + 1, s1.heap.objs.size] → FpOk X pins H1 b := fun b hb => by
      have hle : s1.heap.objs.size ≤ b := by
        rcases (by simpa using hb : b = s1.heap.objs.size + 1 ∨ b = s1.heap.objs.size) with z | z
        · rw [z]; exact Nat.le_add_right _ _
        · rw [z]; exact Nat.le_refl _
      exact I1.fpOk hle (I1.hok.fresh hle)
    rcases q1 with ⟨hq, q⟩ | ⟨hq, q⟩
    · obtain ⟨its, rv, p', hz⟩ := I1.list hq
      refine call_enumerate_list p'.isList fun h' he hit hsz hk => wpAny_pyIter_enum he ?_
      have I2 : Inv X pins σ H1 { s1 with heap := h' } := I1.kept (t' := s1.toks) hk
      exact ⟨s1.heap.objs.size + 1, [s1.heap.objs.size + 1, s1.heap.objs.size], _, _, H1, rfl, I2, turn_enum a (s1.heap.objs.size + 1) s1.heap.objs.size, ⟨⟨.none, he⟩, hit, Nat.succ_ne_self _⟩, fp, q⟩
    · obtain ⟨its, rv, p', hz⟩ := I1.tuple hq
      have al : a < s1.heap.objs.size := by obtain ⟨o, ho, _⟩ := id p'; exact Heap.lt_size ho
      refine enum_made (begins_tuple a its.toArray) p' fun h' he hit hk => wpAny_pyIter_enum he ?_
      have I2 : Inv X pins σ H1 { s1 with heap := h' } := I1.kept (t' := s1.toks) hk
      exact ⟨s1.heap.objs.size + 1, [s1.heap.objs.size + 1, s1.heap.objs.size], _, _, H1, rfl, I2, turnT a (s1.heap.objs.size + 1) s1.heap.objs.size,
        ⟨⟨.none, he⟩, ⟨_, hit, rfl, rfl⟩, Nat.succ_ne_self _, Nat.ne_of_lt (Nat.lt_succ_of_lt al), Nat.ne_of_lt al⟩, fp, q⟩
end L2e
end
section
set_option Elab.async false
set_option linter.all false
set_option maxRecDepth 100000
set_option maxHeartbeats 2000000
/-! list(zip(xs, ys)) of two lists -/
namespace LiZ
open PySem PySem.Spec PyProof.Rows L2
open PySem.Sem (wp)
theorem zip_len_none : typeLookup (.type "zip") "__len__" = pure none := am_miss_of_fast (by decide +kernel)
theorem zip_hint_none : typeLookup (.type "zip") "__length_hint__" = pure none := am_miss_of_fast (by decide +kernel)
/-- what stands behind i turns: S the list that is made -/
structure Zt (h : Heap) (z TI TO i1 i2 l1 l2 S : Addr) (xs ys : Array Value) (i : Nat) : Prop where
  ti : IsPair h TI (.ref i1) (.ref i2)
  t1 : h.IsListIter i1 l1 i
  t2 : h.IsListIter i2 l2 i
  e1 : h.IsList l1 xs
  e2 : h.IsList l2 ys
  st : (IsZip h z TI TO .none ∧ ∃ x y, IsPair h TO x y) ∨ ∃ T f oT, IsZipHeld h z TI TO T f ∧ h.get? T = some oT ∧ T ≠ z ∧ T ≠ i1 ∧ T ≠ i2 ∧ T ≠ S
structure Off (z TI TO i1 i2 l1 l2 S : Addr) : Prop where
  z : S ≠ z
  TI : S ≠ TI
  TO : S ≠ TO
  i1 : S ≠ i1
  i2 : S ≠ i2
  l1 : S ≠ l1
  l2 : S ≠ l2
section
variable {prog : Program} {w : World} {A : Around} {E : Value → Shared → Prop} {s : Shared} {z TI TO i1 i2 l1 l2 S : Addr} {xs ys : Array Value}
theorem Zt.keep {h h' : Heap} {i : Nat} (t : Zt h z TI TO i1 i2 l1 l2 S xs ys i) (O : Off z TI TO i1 i2 l1 l2 S) (hk : ∀ b o, b ≠ S → h.get? b = some o → h'.get? b = some o) : Zt h' z TI TO i1 i2 l1 l2 S xs ys i where
  ti := hk _ _ O.TI.symm t.ti
  t1 := t.t1.at fun o e => hk _ o O.i1.symm e
  t2 := t.t2.at fun o e => hk _ o O.i2.symm e
  e1 := t.e1.at fun o e => hk _ o O.l1.symm e
  e2 := t.e2.at fun o e => hk _ o O.l2.symm e
  st := by
    rcases t.st with ⟨a, x, y, b⟩ | ⟨T, f, oT, a, b, c1, c2, c3, c4⟩
    · exact .inl ⟨hk _ _ O.z.symm a, x, y, hk _ _ O.TO.symm b⟩
    · exact .inr ⟨T, f, oT, hk _ _ O.z.symm a, hk _ _ c4 b, c1, c2, c3, c4⟩
theorem zt_item {i : Nat} {x y : Value} {Q : Option Value → Shared → Prop} (D : ZipApart z TI TO i1 i2 l1 l2) (t : Zt s.heap z TI TO i1 i2 l1 l2 S xs ys i) (hS : S < s.heap.objs.size) (hx : xs[i]? = some x) (hy : ys[i]? = some y)
    (hQ : ∀ h', Zt h' z TI TO i1 i2 l1 l2 S xs ys (i + 1) → IsPair h' s.heap.objs.size x y → h'.objs.size = s.heap.objs.size + 1 →
      (∀ b o, b ≠ z → b ≠ TO → b ≠ i1 → b ≠ i2 → s.heap.get? b = some o → h'.get? b = some o) → Q (some (.ref s.heap.objs.size)) { s with heap := h' }) :
    wpAny (model prog w) A (pyNext (.ref z)) Q E s := by
  have li1 : i1 < s.heap.objs.size := by obtain ⟨_, q, _⟩ := t.t1; exact Heap.lt_size q
  have li2 : i2 < s.heap.objs.size := by obtain ⟨_, q, _⟩ := t.t2; exact Heap.lt_size q
  have lz : z < s.heap.objs.size := by
    rcases t.st with ⟨a, _⟩ | ⟨_, _, _, a, _⟩
    · exact Heap.lt_size a
    · exact Heap.lt_size a
  have next : ∀ h', h'.IsListIter i1 l1 (i + 1) → h'.IsListIter i2 l2 (i + 1) → (∀ b o, b ≠ z → b ≠ TO → b ≠ i1 → b ≠ i2 → s.heap.get? b = some o → h'.get? b = some o) →
      (∃ T f oT, IsZipHeld h' z TI TO T f ∧ h'.get? T = some oT ∧ T ≠ z ∧ T ≠ i1 ∧ T ≠ i2 ∧ T ≠ S) → Zt h' z TI TO i1 i2 l1 l2 S xs ys (i + 1) := fun h' a1 a2 hk q =>
    ⟨hk _ _ D.TIz D.TITO D.TIi1 D.TIi2 t.ti, a1, a2, t.e1.at fun o e => hk _ o D.l1z D.l1TO D.l1i1 D.l1i2 e, t.e2.at fun o e => hk _ o D.l2z D.l2TO D.l2i1 D.l2i2 e, .inr q⟩
  rcases t.st with ⟨a, x0, y0, b⟩ | ⟨T, f, oT, a, b, c1, c2, c3, c4⟩
  · exact wpAny_pyNext_zip_item D a t.ti b t.t1 t.t2 t.e1 t.e2 hx hy fun h' a1 a2 a3 a4 a5 a6 a7 =>
      hQ h' (next h' a3 a4 a7 ⟨s.heap.objs.size, false, _, a1, a5, Nat.ne_of_gt lz, Nat.ne_of_gt li1, Nat.ne_of_gt li2, Nat.ne_of_gt hS⟩) a5 a6 a7
  · exact wpAny_pyNext_zip_item_held D a b t.ti t.t1 t.t2 t.e1 t.e2 hx hy fun h' a1 a3 a4 a5 a6 a7 =>
      hQ h' (next h' a3 a4 (fun b o n1 _ n3 n4 e => a7 b o n1 n3 n4 e) ⟨T, true, oT, a1, a7 T oT c1 c2 c3 b, c1, c2, c3, c4⟩) a5 a6 fun b o n1 _ n3 n4 e => a7 b o n1 n3 n4 e
theorem zt_done {i : Nat} {Q : Option Value → Shared → Prop} (hh : A.handled = none) (D : ZipApart z TI TO i1 i2 l1 l2) (t : Zt s.heap z TI TO i1 i2 l1 l2 S xs ys i) (he : xs[i]? = none ∨ ys[i]? = none)
    (hQ : ∀ h', (∀ b o, b ≠ z → b ≠ TO → b ≠ i1 → b ≠ i2 → s.heap.get? b = some o → h'.get? b = some o) → Q none { s with heap := h' }) : wpAny (model prog w) A (pyNext (.ref z)) Q E s := by
  rcases t.st with ⟨a, x0, y0, b⟩ | ⟨T, f, oT, a, b, c1, c2, c3, c4⟩
  · exact wpAny_pyNext_zip_end hh D a t.ti b t.t1 t.t2 t.e1 t.e2 he hQ
  · exact wpAny_pyNext_zip_end_held hh D a b t.ti t.t1 t.t2 t.e1 t.e2 he fun h' hk => hQ h' fun b o n1 _ n3 n4 e => hk b o n1 n3 n4 e
/-- the tuples handed out so far -/
structure Zg (xs ys : Array Value) (lo : Addr) (h : Heap) (as : List Addr) : Prop where
  rise : as.Pairwise (· < ·)
  above : ∀ a ∈ as, lo < a
  pairs : ∀ (j : Nat) (a : Addr), as[j]? = some a → ∃ x y, xs[j]? = some x ∧ ys[j]? = some y ∧ IsPair h a x y
theorem Zg.there {lo : Addr} {h : Heap} {as : List Addr} (g : Zg xs ys lo h as) {a : Addr} (ha : a ∈ as) : a < h.objs.size := by
  obtain ⟨j, hj⟩ := List.mem_iff_getElem?.mp ha
  obtain ⟨_, _, _, _, e⟩ := g.pairs j a hj
  exact Heap.lt_size e
end
section
variable {prog : Program} {w : World} {A : Around} {s : Shared} {R : Result → Shared → Prop} {z TI TO i1 i2 l1 l2 S : Addr} {xs ys : Array Value}
theorem zt_loop (hh : A.handled = none) (D : ZipApart z TI TO i1 i2 l1 l2) (O : Off z TI TO i1 i2 l1 l2 S) (hn : min xs.size ys.size ≤ sizeLine) (lo : z < S ∧ TO < S ∧ i1 < S ∧ i2 < S) (res : Value) {h₁ : Heap}
    (hR : ∀ h' tk acc c as, (∀ b o, b ≠ S → b ≠ z → b ≠ TO → b ≠ i1 → b ≠ i2 → h₁.get? b = some o → h'.get? b = some o) → h'.get? S = some { cls := .type "list", dict := none, data := .seq acc c, slots := #[] } → as.length = min xs.size ys.size → Zg xs ys S h' as →
      acc.toList = as.map Value.ref → R (.ok (.ret res)) { s with heap := h', toks := tk }) :
    ∀ (k i : Nat) (h : Heap) (tk c : Nat) (acc : Array Value) (as : List Addr), min xs.size ys.size - i = k → i ≤ min xs.size ys.size → Zt h z TI TO i1 i2 l1 l2 S xs ys i →
      (∀ b o, b ≠ S → b ≠ z → b ≠ TO → b ≠ i1 → b ≠ i2 → h₁.get? b = some o → h.get? b = some o) →
      h.get? S = some { cls := .type "list", dict := none, data := .seq acc c, slots := #[] } → acc.toList = as.map Value.ref → as.length = i → Zg xs ys S h as →
      codeAny (model prog w) A (.builtin "list.extend.loop" ⟨[.ref S, .ref z, res], []⟩) R { s with heap := h, toks := tk } := by
  intro k
  induction k with
  | zero =>
    intro i h tk c acc as hk hi st hkeep hS hacc hal hG
    refine codeAny_builtin PySem.F.entry_extend_loop ?_
    rw [Around.under_plainId PySem.F.plain_extend_loop _]
    show wpAny _ A.in1 (pyNext (.ref z) >>= _) _ _ _
    refine wpAny_bind (zt_done (s := { s with heap := h, toks := tk }) (A := A.in1) hh D st (by
      rcases Nat.le_total xs.size ys.size with q | q
      · exact .inl (by rw [Array.getElem?_eq_none]; omega)
      · exact .inr (by rw [Array.getElem?_eq_none]; omega)) fun h' he => ?_)
    refine wpAny_pure (hR h' tk acc c as (fun b o n0 n1 n2 n3 n4 e => he b o n1 n2 n3 n4 (hkeep b o n0 n1 n2 n3 n4 e)) (he S _ O.z O.TO O.i1 O.i2 hS) (by omega) ⟨hG.rise, hG.above, fun j a hj => ?_⟩ hacc)
    obtain ⟨x, y, q1, q2, q3⟩ := hG.pairs j a hj
    have ha := hG.above a (List.mem_of_getElem? hj)
    exact ⟨x, y, q1, q2, he a _ (Nat.ne_of_gt (Nat.lt_trans lo.1 ha)) (Nat.ne_of_gt (Nat.lt_trans lo.2.1 ha)) (Nat.ne_of_gt (Nat.lt_trans lo.2.2.1 ha)) (Nat.ne_of_gt (Nat.lt_trans lo.2.2.2 ha)) q3⟩
  | succ k ih =>
    intro i h tk c acc as hk hi st hkeep hS hacc hal hG
    have l1 : i < xs.size := by omega
    have l2 : i < ys.size := by omega
    have hx : xs[i]? = some xs[i] := Array.getElem?_eq_getElem l1
    have hy : ys[i]? = some ys[i] := Array.getElem?_eq_getElem l2
    have hsz : acc.size = i := by rw [← Array.length_toList, hacc, List.length_map, hal]
    have hSl : S < h.objs.size := Heap.lt_size hS
    refine codeAny_builtin PySem.F.entry_extend_loop ?_
    rw [Around.under_plainId PySem.F.plain_extend_loop _]
    show wpAny _ A.in1 (pyNext (.ref z) >>= _) _ _ _
    refine wpAny_bind (zt_item (s := { s with heap := h, toks := tk }) D st hSl hx hy fun h' st' ht hz hkp => ?_)
    dsimp only at ht hz hkp ⊢
    have hS' := hkp S _ O.z O.TO O.i1 O.i2 hS
    have up : ∀ b o, b ≠ S → h'.get? b = some o → (h'.update S (Obj.mapSeq (·.push (Value.ref h.objs.size)))).get? b = some o := fun b o hb e => (Heap.get?_update_other _ _ (Ne.symm hb)).trans e
    show wpAny _ A.in1 (updateSeq S (·.push (Value.ref h.objs.size)) >>= _) _ _ _
    refine wpAny_bind ?_
    refine wpAny_updateSeq hS' rfl (wpAny_pure ⟨plainId_quiet PySem.F.plain_extend_loop _, ih (i + 1) _ tk _ (acc.push (Value.ref h.objs.size)) (as ++ [h.objs.size]) (by omega) (by omega) (st'.keep O up)
      (fun b o n0 n1 n2 n3 n4 e => up b o n0 (hkp b o n1 n2 n3 n4 (hkeep b o n0 n1 n2 n3 n4 e))) (Heap.get?_update_self _ hS' rfl) (by rw [Array.toList_push, hacc, List.map_append]; rfl) (by rw [List.length_append, hal]; rfl) ⟨?_, ?_, ?_⟩⟩) (by rw [hsz]; omega) (by first | (show (acc.push (Value.ref h.objs.size)).size ≤ _; rw [Array.size_push, hsz]; omega) | skip)
    · refine List.pairwise_append.mpr ⟨hG.rise, List.pairwise_singleton _ _, fun a ha b hb => ?_⟩
      rw [List.mem_singleton.mp hb]
      exact hG.there ha
    · intro a ha
      rcases List.mem_append.mp ha with ha | ha
      · exact hG.above a ha
      · rw [List.mem_singleton.mp ha]; exact hSl
    · intro j b hj
      rcases Nat.lt_trichotomy j as.length with q | q | q
      · rw [List.getElem?_append_left q] at hj
        obtain ⟨x, y, q1, q2, q3⟩ := hG.pairs j b hj
        have hb := hG.above b (List.mem_of_getElem? hj)
        exact ⟨x, y, q1, q2, up b _ (Nat.ne_of_gt hb) (hkp b _ (Nat.ne_of_gt (Nat.lt_trans lo.1 hb)) (Nat.ne_of_gt (Nat.lt_trans lo.2.1 hb)) (Nat.ne_of_gt (Nat.lt_trans lo.2.2.1 hb)) (Nat.ne_of_gt (Nat.lt_trans lo.2.2.2 hb)) q3)⟩
      · subst q
        have hb : h.objs.size = b := by simpa using hj
        subst hb
        exact ⟨_, _, by rw [hal]; exact hx, by rw [hal]; exact hy, up _ _ (Nat.ne_of_gt hSl) ht⟩
      · have hnone : (as ++ [h.objs.size])[j]? = none := List.getElem?_eq_none (by rw [List.length_append, List.length_singleton]; omega)
        rw [hnone] at hj; cases hj
end
section
variable {prog : Program} {w : World} {A : Around} {E : Value → Shared → Prop} {s : Shared} {z TI TO i1 i2 l1 l2 : Addr} {xs ys : Array Value}
theorem zip_hint (hT : s.TypeIs (.ref z) "zip") {Q : Bool → Shared → Prop} (h : Q true s) : wpAny (model prog w) A (Builtin.List.listLengthHint (.ref z)) Q E s := by
  unfold Builtin.List.listLengthHint
  refine wpAny_bind (wpAny_specialOf hT zip_len_none ?_)
  show wpAny _ _ (specialOf (.ref z) "__length_hint__" >>= _) _ _ _
  refine wpAny_bind (wpAny_specialOf hT zip_hint_none ?_)
  exact wpAny_pure h
theorem zt_extend {R : Result → Shared → Prop} (hh : A.handled = none) (D : ZipApart z TI TO i1 i2 l1 l2) {S : Addr} (O : Off z TI TO i1 i2 l1 l2 S) (hn : min xs.size ys.size ≤ sizeLine) (lo : z < S ∧ TO < S ∧ i1 < S ∧ i2 < S) (t : Zt s.heap z TI TO i1 i2 l1 l2 S xs ys 0)
    (hz : IsZip s.heap z TI TO .none) (res : Value) (c₀ : Nat) (hS : s.heap.get? S = some { cls := .type "list", dict := none, data := .seq #[] c₀, slots := #[] })
    (hR : ∀ h' tk acc c as, (∀ b o, b ≠ S → b ≠ z → b ≠ TO → b ≠ i1 → b ≠ i2 → s.heap.get? b = some o → h'.get? b = some o) → h'.get? S = some { cls := .type "list", dict := none, data := .seq acc c, slots := #[] } → as.length = min xs.size ys.size → Zg xs ys S h' as →
      acc.toList = as.map Value.ref → R (.ok (.ret res)) { s with heap := h', toks := tk }) :
    wpAny (model prog w) A.in1 (Builtin.List.listExtendWith (.ref S) (.ref z) res)
      (fun fin s' => match fin with | .done f => R (.ok f) s' | .again c' => c'.quiet = true ∧ codeAny (model prog w) A c' R s') (fun e s' => R (.error e) s') s := by
  have key : ∀ (h : Heap) (c₁ tk : Nat), (∀ b o, b ≠ S → s.heap.get? b = some o → h.get? b = some o) → h.get? S = some { cls := .type "list", data := .seq #[] c₁ } →
      codeAny (model prog w) A (.builtin "list.extend.loop" ⟨[.ref S, .ref z, res], []⟩) R { s with heap := h, toks := tk } := by
    intro h c₁ tk hk hS₁
    exact zt_loop (s := s) (h₁ := s.heap) hh D O hn lo res hR (min xs.size ys.size) 0 h tk c₁ #[] [] (Nat.sub_zero _) (Nat.zero_le _) (t.keep O hk) (fun b o n0 _ _ _ _ e => hk b o n0 e) hS₁ rfl rfl
      ⟨List.Pairwise.nil, (fun _ ha => nomatch ha), (fun j a hj => by simp at hj)⟩
  have hT : s.TypeIs (.ref z) "zip" := ⟨_, hz, rfl⟩
  unfold Builtin.List.listExtendWith
  refine wpAny_bind (wpAny_typeOf (T := "zip") hT ?_)
  have h1 : Builtin.List.listSameRef (.ref S) (.ref z) = false := by simp [Builtin.List.listSameRef, O.z]
  have h2 : (Value.type "zip" == Value.type "list") = false := by decide
  have h3 : (Value.type "zip" == Value.type "tuple") = false := by decide
  simp only [h1, h2, h3, Bool.or_false, Bool.false_eq_true, if_false]
  refine wpAny_bind (wpAny_pyIter_zip hz ?_)
  refine wpAny_bind (wpAny_holding (zip_hint hT ?_))
  refine wpAny_ite_split (fun _ => ?_) (fun q => absurd rfl q)
  refine wpAny_bind (wpAny_rule ?_)
  refine wpAny_bind ?_
  show wpAny _ _ (updateSeq S (·.push .none) >>= fun _ => updateSeq S (·.pop)) _ _ _
  refine wpAny_bind (wpAny_updateSeq hS rfl ?_)
  have hS₂ := Heap.get?_update_self (Obj.mapSeq (·.push Value.none)) hS rfl
  refine wpAny_updateSeq (hz := by seq_fits) hS₂ rfl ?_
  have hS₃ := Heap.get?_update_self (Obj.mapSeq (·.pop)) hS₂ rfl
  refine wpAny_pure ⟨plainId_quiet PySem.F.plain_extend_loop _, key _ _ _ (fun b o hb e => ?_) hS₃⟩
  exact (Heap.get?_update_other _ _ (Ne.symm hb)).trans ((Heap.get?_update_other _ _ (Ne.symm hb)).trans e)
theorem zt_init {R : Result → Shared → Prop} (hh : A.handled = none) (D : ZipApart z TI TO i1 i2 l1 l2) {S : Addr} (O : Off z TI TO i1 i2 l1 l2 S) (hn : min xs.size ys.size ≤ sizeLine) (lo : z < S ∧ TO < S ∧ i1 < S ∧ i2 < S) (t : Zt s.heap z TI TO i1 i2 l1 l2 S xs ys 0)
    (hz : IsZip s.heap z TI TO .none) (hS : s.heap.get? S = some { cls := .type "list", data := .seq #[] })
    (hR : ∀ h' tk acc c as, (∀ b o, b ≠ S → b ≠ z → b ≠ TO → b ≠ i1 → b ≠ i2 → s.heap.get? b = some o → h'.get? b = some o) → h'.get? S = some { cls := .type "list", dict := none, data := .seq acc c, slots := #[] } → as.length = min xs.size ys.size → Zg xs ys S h' as →
      acc.toList = as.map Value.ref → R (.ok (.ret .none)) { s with heap := h', toks := tk }) :
    wpAny (model prog w) A.in1 (Builtin.«list.__init__» ⟨[.ref S, .ref z], []⟩)
      (fun fin s' => match fin with | .done f => R (.ok f) s' | .again c' => c'.quiet = true ∧ codeAny (model prog w) A c' R s') (fun e s' => R (.error e) s') s := by
  show wpAny _ _ (do let old ← Builtin.List.listItems (.ref S); Builtin.List.listUpdate (.ref S) (fun _ => #[]); letGo old.toList.reverse; Builtin.List.listExtendWith (.ref S) (.ref z) .none) _ _ s
  refine wpAny_bind ?_
  unfold Builtin.List.listItems
  refine wpAny_bind (wpAny_seqItems hS rfl (wpAny_pure ?_))
  show wpAny _ _ (updateSeq S (fun _ => #[]) >>= fun _ => letGo (#[] : Array Value).toList.reverse >>= fun _ => Builtin.List.listExtendWith (.ref S) (.ref z) .none) _ _ s
  refine wpAny_bind (wpAny_updateSeq hS rfl ?_)
  have hS₂ := Heap.get?_update_self (Obj.mapSeq (fun _ => (#[] : Array Value))) hS rfl
  have oth : ∀ b o, b ≠ S → s.heap.get? b = some o → (s.heap.update S (Obj.mapSeq (fun _ => (#[] : Array Value)))).get? b = some o :=
    fun b o hb e => (Heap.get?_update_other _ _ (Ne.symm hb)).trans e
  refine wpAny_bind (wpAny_letGo ?_)
  exact zt_extend hh D O hn lo (t.keep O oth) (oth _ _ O.z.symm hz) .none _ hS₂ fun h' tk acc c as hk hS' hl hG hacc => hR h' tk acc c as (fun b o n0 n1 n2 n3 n4 e => hk b o n0 n1 n2 n3 n4 (oth b o n0 e)) hS' hl hG hacc
theorem zt_call {Q : Value → Shared → Prop} (hh : A.handled = none) (D : ZipApart z TI TO i1 i2 l1 l2) (hn : min xs.size ys.size ≤ sizeLine) (hz : IsZip s.heap z TI TO .none) (hTI : IsPair s.heap TI (.ref i1) (.ref i2)) (hTO : ∃ x y, IsPair s.heap TO x y)
    (h1 : s.heap.IsListIter i1 l1 0) (h2 : s.heap.IsListIter i2 l2 0) (e1 : s.heap.IsList l1 xs) (e2 : s.heap.IsList l2 ys)
    (hQ : ∀ h' tk acc c as, (∀ b o, b ≠ z → b ≠ TO → b ≠ i1 → b ≠ i2 → s.heap.get? b = some o → h'.get? b = some o) → h'.get? s.heap.objs.size = some { cls := .type "list", dict := none, data := .seq acc c, slots := #[] } → as.length = min xs.size ys.size → Zg xs ys s.heap.objs.size h' as →
      acc.toList = as.map Value.ref → Q (.ref s.heap.objs.size) { s with heap := h', toks := tk }) :
    wpAny (model prog w) A (call (.type "list") [.ref z]) Q E s := by
  refine callType_codes (Q₁ := fun obj s₁ => obj = .ref s.heap.objs.size ∧ s₁ = { s with heap := s.heap.push { cls := .type "list", data := .seq #[] } }) PySem.F.called_list (PySem.F.typeCall_list_1 _) PySem.F.entry_list_init
    (code_list_new _ ⟨rfl, rfl⟩) fun obj s₁ q => ?_
  obtain ⟨rfl, rfl⟩ := q
  have hS : (s.heap.push { cls := .type "list", data := .seq #[] }).get? s.heap.objs.size = some { cls := .type "list", data := .seq #[] } := Heap.get?_push_size _ rfl
  obtain ⟨x0, y0, hTO⟩ := hTO
  have lz : z < s.heap.objs.size := Heap.lt_size hz
  have lTI : TI < s.heap.objs.size := Heap.lt_size hTI
  have lTO : TO < s.heap.objs.size := Heap.lt_size hTO
  have li1 : i1 < s.heap.objs.size := by obtain ⟨_, q, _⟩ := h1; exact Heap.lt_size q
  have li2 : i2 < s.heap.objs.size := by obtain ⟨_, q, _⟩ := h2; exact Heap.lt_size q
  have ll1 : l1 < s.heap.objs.size := by obtain ⟨_, q, _⟩ := e1; exact Heap.lt_size q
  have ll2 : l2 < s.heap.objs.size := by obtain ⟨_, q, _⟩ := e2; exact Heap.lt_size q
  have O : Off z TI TO i1 i2 l1 l2 s.heap.objs.size := ⟨Nat.ne_of_gt lz, Nat.ne_of_gt lTI, Nat.ne_of_gt lTO, Nat.ne_of_gt li1, Nat.ne_of_gt li2, Nat.ne_of_gt ll1, Nat.ne_of_gt ll2⟩
  have pu : ∀ b o, s.heap.get? b = some o → (s.heap.push { cls := .type "list", data := .seq #[] }).get? b = some o := fun b o e => Heap.get?_push_of_some _ e
  refine ⟨⟨_, hS, rfl⟩, PySem.F.args_list_init_2 _ _, zt_init (A := A.in1) hh D O hn ⟨lz, lTO, li1, li2⟩ ⟨pu _ _ hTI, h1.at fun o e => pu _ o e, h2.at fun o e => pu _ o e, e1.at fun o e => pu _ o e, e2.at fun o e => pu _ o e, .inl ⟨pu _ _ hz, x0, y0, pu _ _ hTO⟩⟩ (pu _ _ hz) hS
    (fun h' tk acc c as hk hS' hl hG hacc => ?_)⟩
  exact ⟨rfl, hQ h' tk acc c as (fun b o n1 n2 n3 n4 e => hk b o (Nat.ne_of_lt (Heap.lt_size e)) n1 n2 n3 n4 (pu b o e)) hS' hl hG hacc⟩
end
/-! the same over the layer's heap -/
def putZ : Hp → List Addr → List (V × V) → Hp
  | G, t :: ts, q :: qs => putZ (upd G t (.tup [q.1, q.2])) ts qs
  | G, _, _ => G
theorem putZ_off {b : Addr} : ∀ (ts : List Addr) (qs : List (V × V)) (G : Hp), b ∉ ts → putZ G ts qs b = G b
  | [], _, _, _ => rfl
  | _ :: _, [], _, _ => rfl
  | t :: ts, q :: qs, G, n => by
    have n1 : b ∉ ts := fun z => n (List.mem_cons_of_mem _ z)
    have n2 : b ≠ t := fun z => n (z ▸ List.mem_cons_self ..)
    exact (putZ_off ts qs _ n1).trans (upd_ne n2)
theorem putZ_at : ∀ (ts : List Addr) (qs : List (V × V)) (G : Hp), ts.length = qs.length → ts.Nodup → ∀ (j : Nat) (t : Addr) (q : V × V), ts[j]? = some t → qs[j]? = some q → putZ G ts qs t = some (.tup [q.1, q.2])
  | [], _, _, _, _, j, _, _, e, _ => by simp at e
  | _ :: _, [], _, l, _, _, _, _, _, _ => by cases l
  | u :: ts, r :: qs, G, l, n, 0, t, q, e1, e2 => by
    cases e1; cases e2
    have n' := List.nodup_cons.mp n
    exact (putZ_off ts qs _ n'.1).trans upd_same
  | u :: ts, r :: qs, G, l, n, j + 1, t, q, e1, e2 => putZ_at ts qs _ (Nat.succ.inj l) (List.nodup_cons.mp n).2 j t q e1 e2
theorem refs_vals : ∀ ts : List Addr, Vals (ts.map V.ref) (ts.map Value.ref)
  | [] => .nil
  | _ :: ts => .cons rfl (refs_vals ts)
/-- a new list of new pairs: what stands behind it -/
structure ZPost (H H' : Hp) (p : Addr) (ts : List Addr) (xs ys : List V) : Prop where
  keep : ∀ b o, H b = some o → H' b = some o
  newp : H p = none
  newt : ∀ t ∈ ts, H t = none
  off : p ∉ ts
  lst : H' p = some (.lst (ts.map V.ref))
  len : ts.length = min xs.length ys.length
  tup : ∀ (j : Nat) (t : Addr) (x y : V), ts[j]? = some t → xs[j]? = some x → ys[j]? = some y → H' t = some (.tup [x, y])
def tLz (K : PySem.W.Frag) (ta : TA) : TE := fun σ H Q => ta σ H fun vs H1 => ∃ a b xs ys, vs = [.ref a, .ref b] ∧ SqL K H1 a xs ∧ SqL K H1 b ys ∧ ∀ H' p ts, ZPost H1 H' p ts xs ys → Q (.ref p) H'
section
variable {X : Cx} {pins : List (Addr × Obj)} {σ : L2.St} {H : Hp} {s : Shared}
theorem z_laid {h' : Heap} {tk : Nat} {xs ys : List V} {us ws : List Value} {acc : Array Value} {c : Nat} {ts : List Addr} {S : Addr} (I : Inv X pins σ H s) (hn : min xs.length ys.length ≤ sizeLine) (rx : Vals xs us) (ry : Vals ys ws)
    (hS0 : s.heap.objs.size ≤ S) (hk : ∀ b o, s.heap.get? b = some o → h'.get? b = some o) (hS : h'.get? S = some { cls := .type "list", dict := none, data := .seq acc c, slots := #[] }) (hl : ts.length = min us.length ws.length) (hG : Zg us.toArray ws.toArray S h' ts)
    (hacc : acc.toList = ts.map Value.ref) : ∃ H' : Hp, ZPost H H' S ts xs ys ∧ Inv X pins σ H' { s with heap := h', toks := tk } := by
  have lx := rx.length
  have ly := ry.length
  have lt : ts.length = (xs.zip ys).length := by rw [List.length_zip, lx, ly]; exact hl
  have nS : S ∉ ts := fun q => Nat.lt_irrefl _ (hG.above _ q)
  have nd : ts.Nodup := hG.rise.imp fun {a b} (q : a < b) => Nat.ne_of_lt q
  have nt : ∀ t ∈ ts, H t = none := fun t q => I.hok.fresh (Nat.le_trans hS0 (Nat.le_of_lt (hG.above t q)))
  have np : H S = none := I.hok.fresh hS0
  have at_ := putZ_at ts (xs.zip ys) (upd H S (.lst (ts.map V.ref))) lt nd
  have off : ∀ b, b ∉ ts → b ≠ S → putZ (upd H S (.lst (ts.map V.ref))) ts (xs.zip ys) b = H b := fun b q1 q2 => (putZ_off ts _ _ q1).trans (upd_ne q2)
  have low : ∀ b o, s.heap.get? b = some o → b ∉ ts ∧ b ≠ S := fun b o e => by
    have lb := Heap.lt_size e
    exact ⟨fun q => Nat.lt_irrefl _ (Nat.lt_trans (Nat.lt_of_lt_of_le lb hS0) (hG.above b q)), Nat.ne_of_lt (Nat.lt_of_lt_of_le lb hS0)⟩
  have kp : ∀ b u, H b = some u → putZ (upd H S (.lst (ts.map V.ref))) ts (xs.zip ys) b = some u := fun b u e =>
    (off b (fun q => by rw [nt b q] at e; cases e) fun q => by rw [q, np] at e; cases e).trans e
  have eS : putZ (upd H S (.lst (ts.map V.ref))) ts (xs.zip ys) S = some (.lst (ts.map V.ref)) := (putZ_off ts _ _ nS).trans upd_same
  have zt : ∀ (j : Nat) (x y : V), xs[j]? = some x → ys[j]? = some y → (xs.zip ys)[j]? = some (x, y) := fun j x y e1 e2 => by rw [List.getElem?_zip_eq_some]; exact ⟨e1, e2⟩
  refine ⟨putZ (upd H S (.lst (ts.map V.ref))) ts (xs.zip ys), ⟨kp, np, nt, nS, eS, by rw [lt, List.length_zip], fun j t x y e1 e2 e3 => at_ j t (x, y) e1 (zt j x y e2 e3)⟩, ?_⟩
  refine I.call' (ch := []) rfl ⟨fun b o q _ _ _ => hk b o q, (fun b o q _ _ _ => ⟨o.slots, hk b o q⟩), fun b o q n _ => ?_, (fun b o q _ => ⟨o, hk b o q⟩), (fun b l q => kp b _ q), (fun b o u q => kp b _ q), fun b l q => ⟨#[], by rw [kp b _ q]; simp⟩⟩ (fun b u q => ?_) I.bare fun b q => by simp at q
  · obtain ⟨q1, q2⟩ := low b o q
    rw [off b q1 q2]; exact n
  · by_cases hb : b ∈ ts
    · obtain ⟨j, hj⟩ := List.mem_iff_getElem?.mp hb
      have jl : j < (xs.zip ys).length := by rw [← lt]; exact (List.getElem?_eq_some_iff.mp hj).1
      have jl2 : j < min xs.length ys.length := by rwa [List.length_zip] at jl
      have e3 := at_ j b _ hj (zt j (xs[j]'(by omega)) (ys[j]'(by omega)) (by simp) (by simp))
      rw [e3] at q
      cases q
      obtain ⟨x, y, f1, f2, f3⟩ := hG.pairs j b hj
      have f1 : us[j]? = some x := by simpa using f1
      have f2 : ws[j]? = some y := by simpa using f2
      obtain ⟨u1, g1, g2⟩ := rx.get (i := j) (x := xs[j]'(by omega)) (by simp)
      obtain ⟨u2, g3, g4⟩ := ry.get (i := j) (x := ys[j]'(by omega)) (by simp)
      rw [f1] at g1
      rw [f2] at g3
      cases g1; cases g3
      exact ⟨by show 2 ≤ sizeLine; decide, [x, y], .cons g2 (.cons g4 .nil), ⟨_, f3, rfl, _, rfl⟩⟩
    · by_cases hb2 : b = S
      · rw [hb2] at q ⊢
        rw [eS] at q
        cases q
        refine ⟨by rw [List.length_map, lt, List.length_zip]; exact hn, acc.toList, c, by rw [hacc]; exact refs_vals ts, ?_⟩
        rw [Array.toArray_toList]; exact hS
      · rw [off b hb hb2] at q
        exact (I.hok b u q).stay (fun d v _ y => hk d v y) (fun d y => kp d _ y) fun d l y => kp d _ y
/-- list(zip(e, e2)) of two lists -/
theorem pe_listZip {e e2 : Expr} {ta : TA} {p p2 cpos pos : Pos} (hc : X.calm = true) (ha : PA X [e, e2] ta) (hg : Gl X "list") (hm : X.mg "list" = none) (hg2 : Gl X "zip") (hm2 : X.mg "zip" = none)
    (hs : starEach [e, e2] X.env = (false, eval e X.env) :: starEach [e2] X.env := by rfl) (hpl : (backTo cpos (starEach [e2] X.env)).any (·.1) = false := by rfl)
    (hs2 : starEach [.Call (.Name "zip" p2) [e, e2] [] cpos] X.env = (false, eval (.Call (.Name "zip" p2) [e, e2] [] cpos) X.env) :: starEach [] X.env := by rfl) :
    PE X (.Call (.Name "list" p) [.Call (.Name "zip" p2) [e, e2] [] cpos] [] pos) (tLz X.K ta) := by
  refine ⟨fun pins s σ H Q I hq => ?_⟩
  have bl : bootBuiltins "list" = some (.type "list") := by rfl
  refine wpAny_Call_Name_kw (ld_blt I hg hm bl (PyProof.Rows.callWith_type1 ?_ hs2 rfl))
  rw [hs2]
  show wpAny _ _ (spliced ((false, eval (.Call (.Name "zip" p2) [e, e2] [] cpos) X.env) :: backTo pos (starEach [] X.env))) _ _ s
  refine Calls.spliced_cons ?_
  refine wpAny_Call_Name_kw (ld_blt I hg2 hm2 PyProof.Rows.boot_zip (PyProof.Rows.callWith_type1 (thn (ha.run cpos pins s σ H _ I hq) fun us s1 ⟨vs, H1, I1, r1, q1⟩ => ?_) hs hpl))
  obtain ⟨a, b, xs, ys, ex, hqx, hqy, q⟩ := q1
  subst ex
  cases r1 with
  | cons ra rr =>
    cases rr with
    | cons rb rr =>
      cases rr
      cases ra
      cases rb
      obtain ⟨us, rx, p1, n1⟩ := I1.list hqx
      obtain ⟨ws, ry, p2', n2⟩ := I1.list hqy
      refine call_zip_2 p1.isList p2'.isList fun h' hz hTI hTO t1 t2 hsz hk => ?_
      refine Calls.spliced_nil ?_
      have e1 : h'.IsList a us.toArray := p1.isList.at fun o q => hk a o q
      have e2 : h'.IsList b ws.toArray := p2'.isList.at fun o q => hk b o q
      have hn : min xs.length ys.length ≤ sizeLine := by have := rx.length; omega
      have lu := rx.length
      have lw := ry.length
      refine zt_call (s := { s1 with heap := h' }) (I1.ok.hd hc) (PySem.W.ktu_apart s1.heap.objs.size a b p1.lt p2'.lt) (by simp; omega) hz hTI ⟨_, _, hTO⟩ t1 t2 e1 e2 fun h'' tk acc c ts hk2 hS hl hG hacc => ?_
      dsimp only at hk2 hS hG ⊢
      rw [hsz] at hS hG ⊢
      have hk3 : ∀ b o, s1.heap.get? b = some o → h''.get? b = some o := fun b o q => by
        have lb := Heap.lt_size q
        exact hk2 b o (Nat.ne_of_lt (Nat.lt_of_lt_of_le lb (Nat.le_add_right _ _))) (Nat.ne_of_lt (Nat.lt_of_lt_of_le lb (Nat.le_add_right _ _))) (Nat.ne_of_lt lb) (Nat.ne_of_lt (Nat.lt_of_lt_of_le lb (Nat.le_add_right _ _))) (hk b o q)
      obtain ⟨H', z, J⟩ := z_laid (tk := tk) I1 hn rx ry (Nat.le_add_right _ _) hk3 hS (by simpa using hl) hG hacc
      exact ⟨.ref _, H', J, rfl, q H' _ ts z⟩
end
end LiZ
end
section
set_option maxRecDepth 100000
set_option linter.all false
/-! min and max of a tuple of ints -/
namespace L2
open PySem PySem.Spec PySem.Calls PyProof.Rows PyProof.V PySem.W HT
section
variable {prog : Program} {w : World} {A : Around} {E : Value → Shared → Prop} {s : Shared} {l : Addr} {its : List Value} {ns : List Int} {Q : Value → Shared → Prop}
theorem max_tupleI {xs : Array (Int × Tok)} (hh : A.handled = none) (ht : s.heap.IsTuple l (intItems xs)) (hne : 0 < xs.size)
    (h : ∀ v h' tk, (intItems xs)[argBest (fun i j => decide (numAt xs i > numAt xs j)) (xs.size - 1)]? = some v → (∀ b o, s.heap.get? b = some o → h'.get? b = some o) → Q v { s with heap := h', toks := tk }) :
    wpAny (model prog w) A (call (.builtin "max") [.ref l]) Q E s := by
  obtain ⟨o, ho, _, _, _⟩ := id ht
  have hn : l ≠ s.heap.objs.size := Nat.ne_of_lt (Heap.lt_size ho)
  refine call_max_walk (wpAny_pyIter_tuple ht ?_)
  refine ⟨s.heap.objs.size, _, _, _, _, _, _, rfl, Walks.tuple (A := A.in1) hh _ l hn (intItems xs), ⟨⟨_, Heap.get?_push_size _ rfl, rfl, rfl⟩, ht.at fun o e => Heap.get?_push_of_some _ e⟩, fun b hb => ?_, by simpa [intItems] using hne, CmpOf.ints_gt (numAt xs) (fun _ _ => intItems_at), fun v h' tk hP hk => ?_⟩
  · rcases List.mem_cons.mp hb with rfl | hb
    · exact Heap.lt_size (Heap.get?_push_size _ rfl)
    · obtain rfl := List.mem_singleton.mp hb
      exact Heap.lt_size (Heap.get?_push_of_some _ ho)
  · exact h v h' tk (by simpa [intItems] using hP) fun b o e => hk b o (fun hm => absurd (Heap.lt_size e) ((List.mem_singleton.mp hm) ▸ Nat.lt_irrefl _)) (Heap.get?_push_of_some _ e)
theorem min_tupleI {xs : Array (Int × Tok)} (hh : A.handled = none) (ht : s.heap.IsTuple l (intItems xs)) (hne : 0 < xs.size)
    (h : ∀ v h' tk, (intItems xs)[argBest (fun i j => decide (numAt xs i < numAt xs j)) (xs.size - 1)]? = some v → (∀ b o, s.heap.get? b = some o → h'.get? b = some o) → Q v { s with heap := h', toks := tk }) :
    wpAny (model prog w) A (call (.builtin "min") [.ref l]) Q E s := by
  obtain ⟨o, ho, _, _, _⟩ := id ht
  have hn : l ≠ s.heap.objs.size := Nat.ne_of_lt (Heap.lt_size ho)
  refine call_min_walk (wpAny_pyIter_tuple ht ?_)
  refine ⟨s.heap.objs.size, _, _, _, _, _, _, rfl, Walks.tuple (A := A.in1) hh _ l hn (intItems xs), ⟨⟨_, Heap.get?_push_size _ rfl, rfl, rfl⟩, ht.at fun o e => Heap.get?_push_of_some _ e⟩, fun b hb => ?_, by simpa [intItems] using hne, CmpOf.ints_lt (numAt xs) (fun _ _ => intItems_at), fun v h' tk hP hk => ?_⟩
  · rcases List.mem_cons.mp hb with rfl | hb
    · exact Heap.lt_size (Heap.get?_push_size _ rfl)
    · obtain rfl := List.mem_singleton.mp hb
      exact Heap.lt_size (Heap.get?_push_of_some _ ho)
  · exact h v h' tk (by simpa [intItems] using hP) fun b o e => hk b o (fun hm => absurd (Heap.lt_size e) ((List.mem_singleton.mp hm) ▸ Nat.lt_irrefl _)) (Heap.get?_push_of_some _ e)
theorem max_rawT (hh : A.handled = none) (hl : s.heap.IsTuple l its.toArray) (hi : IntsAre its ns) (hne : 0 < ns.length)
    (h : ∀ h' tk M t', (∀ b o, s.heap.get? b = some o → h'.get? b = some o) → M ∈ ns → (∀ a, a ∈ ns → a ≤ M) → Q (.int M t') { s with heap := h', toks := tk }) : wpAny (model prog w) A (call (.builtin "max") [.ref l]) Q E s := by
  obtain ⟨xs, e⟩ := hi.allInts.items
  have hn : numsOf (intItems xs).toList = ns := by rw [← e]; exact hi.numsOf
  rw [nums_intItems] at hn
  subst hn
  rw [e] at hl
  have hz : 0 < xs.size := by simpa using hne
  refine max_tupleI hh hl hz fun v h' tk hv hk => ?_
  obtain ⟨t, rfl⟩ := intItems_at hv
  obtain ⟨_, h2⟩ := argBest_gt (numAt xs) (xs.size - 1)
  refine h h' tk _ t hk ?_ fun a ha => ?_
  · rw [numAt_eq]; exact PySem.getD_mem (by rw [List.length_map, Array.length_toList]; omega)
  · obtain ⟨j, hj, rfl⟩ := mem_getD ha
    rw [List.length_map, Array.length_toList] at hj
    rw [← numAt_eq]; exact h2 j (by omega)
theorem min_rawT (hh : A.handled = none) (hl : s.heap.IsTuple l its.toArray) (hi : IntsAre its ns) (hne : 0 < ns.length)
    (h : ∀ h' tk M t', (∀ b o, s.heap.get? b = some o → h'.get? b = some o) → M ∈ ns → (∀ a, a ∈ ns → M ≤ a) → Q (.int M t') { s with heap := h', toks := tk }) : wpAny (model prog w) A (call (.builtin "min") [.ref l]) Q E s := by
  obtain ⟨xs, e⟩ := hi.allInts.items
  have hn : numsOf (intItems xs).toList = ns := by rw [← e]; exact hi.numsOf
  rw [nums_intItems] at hn
  subst hn
  rw [e] at hl
  have hz : 0 < xs.size := by simpa using hne
  refine min_tupleI hh hl hz fun v h' tk hv hk => ?_
  obtain ⟨t, rfl⟩ := intItems_at hv
  obtain ⟨_, h2⟩ := argBest_lt (numAt xs) (xs.size - 1)
  refine h h' tk _ t hk ?_ fun a ha => ?_
  · rw [numAt_eq]; exact PySem.getD_mem (by rw [List.length_map, Array.length_toList]; omega)
  · obtain ⟨j, hj, rfl⟩ := mem_getD ha
    rw [List.length_map, Array.length_toList] at hj
    rw [← numAt_eq]; exact h2 j (by omega)
end
section
variable {X : Cx}
def rMaxT (K : PySem.W.Frag) : List V → Hp → VK → Prop := fun vs H Q => ∃ (a : Addr) (ns : List Int), vs = [V.ref a] ∧ SqT K H a (ns.map V.int) ∧ 0 < ns.length ∧ ∀ m, m ∈ ns → (∀ y, y ∈ ns → y ≤ m) → Q (.int m) H
theorem cr_maxT (hc : X.calm = true) : CallR X (.builtin "max") (rMaxT X.K) := by
  intro pins s σ H vs us Q I r h
  obtain ⟨a, ns, rfl, hs, hne, q⟩ := h
  obtain ⟨its, rv, hl, _⟩ := I.tuple hs
  rw [Vals.ref1 r]
  exact max_rawT (I.ok.hd hc) (show s.heap.IsTuple a its.toArray from hl) rv.ints hne fun h' tk m t' hk h1 h2 => ⟨.int _, H, I.kept hk, ⟨_, rfl⟩, q m h1 h2⟩
def rMinT (K : PySem.W.Frag) : List V → Hp → VK → Prop := fun vs H Q => ∃ (a : Addr) (ns : List Int), vs = [V.ref a] ∧ SqT K H a (ns.map V.int) ∧ 0 < ns.length ∧ ∀ m, m ∈ ns → (∀ y, y ∈ ns → m ≤ y) → Q (.int m) H
theorem cr_minT (hc : X.calm = true) : CallR X (.builtin "min") (rMinT X.K) := by
  intro pins s σ H vs us Q I r h
  obtain ⟨a, ns, rfl, hs, hne, q⟩ := h
  obtain ⟨its, rv, hl, _⟩ := I.tuple hs
  rw [Vals.ref1 r]
  exact min_rawT (I.ok.hd hc) (show s.heap.IsTuple a its.toArray from hl) rv.ints hne fun h' tk m t' hk h1 h2 => ⟨.int _, H, I.kept hk, ⟨_, rfl⟩, q m h1 h2⟩
end
end L2
end
section
set_option linter.all false
set_option maxRecDepth 100000
set_option maxHeartbeats 3200000
/-! sorted(set(l)) of a list of ints -/
namespace SetZ
open PySem PySem.Spec PyProof.Rows L2
section
variable {P : Program} {w : World} {A : Around} {E : Value → Shared → Prop} {s : Shared}
abbrev emptyS (w : World) : Obj := { cls := .type "set", dict := none, data := .set #[] 0 (.fresh 0 0 (!w.params.followText "set-order")) }
/-- the first i numbers, told as a set's test and number -/
abbrev inF (g : Nat → Int) (i : Nat) : Int → Bool := fun x => (firstMet g i).any (· == x)
theorem setLoop {I : Addr} {fp wr : List Addr} {G : Array GenState → Array GenState → Prop} {n : Nat} {Pv : Nat → Value → Prop} {St : Nat → Shared → Prop} {R : Result → Shared → Prop} (W : WalksS P w A.in1 I fp wr G n Pv St) (z : Addr) (zf : z ∉ fp)
    (g : Nat → Int) (hg : ∀ i v, Pv i v → ∃ t, v = .int (g i) t) (hb : n + 1 < scanBound) : ∀ (m i : Nat) (s : Shared), i + m = n → St i s → SetR w s.heap z (inF g i) (firstMet g i).length →
      (∀ s', Moved (z :: wr) G s s' → SetR w s'.heap z (inF g n) (firstMet g n).length → R (.ok (.ret .none)) s') → codeAny (model P w) A (.builtin "set.update.loop" ⟨[.ref z, .ref I], []⟩) R s := by
  have zw : z ∉ wr := fun h => zf (W.sub _ h)
  have mono : ∀ b ∈ wr, b ∈ z :: wr := fun b hb => List.mem_cons_of_mem _ hb
  intro m
  induction m with
  | zero =>
    intro i s hi hst hS hR
    rw [Nat.add_zero] at hi
    subst hi
    refine codeAny_builtin F.entry_set_update_loop ?_
    rw [Around.under_plainId F.plain_set_update_loop _]
    exact wpAny_bind (m := pyNext (.ref I)) (W.done s _ _ hst fun s' hm => wpAny_pure (hR s' (hm.mono mono) (SetR.at hS fun o e => hm.heap z o zw e)))
  | succ m ih =>
    intro i s hi hst hS hR
    have lt : i < n := by omega
    have fl := firstMet_length_le g i
    refine codeAny_builtin F.entry_set_update_loop ?_
    rw [Around.under_plainId F.plain_set_update_loop _]
    refine wpAny_bind (m := pyNext (.ref I)) (W.item i s _ _ lt hst fun v s' hP hst' hm => ?_)
    obtain ⟨t, rfl⟩ := hg i v hP
    have hS' : SetR w s'.heap z (inF g i) (firstMet g i).length := SetR.at hS fun o e => hm.heap z o zw e
    refine wpAny_bind (m := holding [Value.int (g i) t] (setAdd z (.int (g i) t))) (wpAny_holding ?_)
    unfold setAdd
    refine wpAny_holding (wpAny_bind ((intKind P w).pyHash (k := g i) (intKind_is _ _ _ _) ?_))
    refine setR_add_hashed (s := { s' with toks := s'.toks + 1 }) hS' (by omega) fun h' sb S2 => ?_
    have S3 : SetR w h' z (inF g (i + 1)) (firstMet g (i + 1)).length := by
      have e1 : inF g (i + 1) = fun j => inF g i j || decide (j = g i) := funext fun x => by
        show (firstMet g (i + 1)).any _ = _
        rw [firstMet_succ, step_any]
      have e2 : (firstMet g (i + 1)).length = if inF g i (g i) = true then (firstMet g i).length else (firstMet g i).length + 1 := by rw [firstMet_succ, step_length]
      rw [e1, e2]
      exact S2
    refine wpAny_pure ⟨plainId_quiet F.plain_set_update_loop _, ih (i + 1) _ (by omega) (W.frame _ s' _ _ hst' (Nat.le_succ _) fun b hb o e => ?_) S3 fun s2 hm2 hS2 => ?_⟩
    · rw [sb.2 b fun q : b = z => zf (q ▸ hb)]; exact e
    · refine hR s2 (Moved.trans W.gtrans ((hm.mono mono).then_heap (Nat.le_succ _) fun b o hb e => ?_) hm2) hS2
      rw [sb.2 b fun q : b = z => hb (q ▸ List.mem_cons_self)]; exact e
theorem setOfInts {l : Addr} {items : Array Value} {ns : List Int} {Q : Value → Shared → Prop} (hh : A.handled = none) (hl : s.heap.IsList l items) (hi : IntsAre items.toList ns) (hb : items.size + 1 < scanBound)
    (h : ∀ (h' : Heap) (tk : Nat), SetR w h' s.heap.objs.size (inF (fun i => ns.getD i 0) items.size) (firstMet (fun i => ns.getD i 0) items.size).length → (∀ b o, s.heap.get? b = some o → h'.get? b = some o) →
      Q (.ref s.heap.objs.size) { s with heap := h', toks := tk }) : wpAny (model P w) A (call (.type "set") [.ref l]) Q E s := by
  obtain ⟨c, tl, mro⟩ := F.called_set.mro
  have made := F.called_set.made
  have sub := F.called_set.sub
  have n1 := F.called_set.notType
  have n2 := F.called_set.canCreate
  have n3 := F.typeCall_set_1 (.ref l)
  refine wpAny_call (codeAny_of_tree ?_)
  show wpAny _ _ (callAny (.type "set") _) _ _ _
  refine wpAny_pure ⟨Code.quiet_builtin _ (by decide +kernel), codeAny_builtin F.entry_type_call ?_⟩
  rw [Around.under_plain (weight_type_call_type "set" [.ref l] []) rfl]
  repeat (any_goals (first | assumption | wp_step))
  refine codeAny_mono (code_set_led1 (.ref l) (E := E) (Q₁ := fun ob s1 => ob = .ref s.heap.objs.size ∧ s1 = { s with heap := s.heap.push (emptyS w) }) ⟨rfl, rfl⟩) fun r s1 hr => ?_
  match r, hr with
  | .error e, hr => exact hr
  | .ok (.ret ob), hr =>
    obtain ⟨rfl, rfl⟩ := hr
    have at0 : (s.heap.push (emptyS w)).get? s.heap.objs.size = some (emptyS w) := Heap.get?_push_size _ rfl
    have ty : Shared.TypeIs { s with heap := s.heap.push (emptyS w) } (.ref s.heap.objs.size) "set" := ⟨_, at0, rfl⟩
    have i1 := F.called_set.init.lookup
    have i2 := F.called_set.init.bind (.ref s.heap.objs.size)
    repeat (any_goals (first | assumption | wp_step))
    refine codeAny_mono (codeAny_call_builtin (R := wants (fun r s2 => r = .none ∧ ∃ h' tk, s2 = { s with heap := h', toks := tk } ∧ SetR w h' s.heap.objs.size (inF (fun i => ns.getD i 0) items.size) (firstMet (fun i => ns.getD i 0) items.size).length ∧
      (∀ b o, s.heap.get? b = some o → h'.get? b = some o)) E) F.called_set.init.plain F.entry_set_init (check_set_init_1 ty ?_)) fun r2 s2 hr2 => ?_
    · obtain ⟨⟨lc, ld, ldt, lsl⟩, ho, hc, nl, hd⟩ := hl
      simp only at hc hd
      subst hc hd
      have ho1 : (s.heap.push (emptyS w)).get? l = some { cls := .type "list", dict := ld, data := .seq items nl, slots := lsl } := Heap.get?_push_of_some _ ho
      have u1 := F.sub_list_set
      have u2 := F.sub_list_frozenset
      have u3 : (Value.type "list" == Value.type "dict") = false := by decide
      have il : (s.heap.push (emptyS w)).IsList l items := ⟨_, ho1, rfl, nl, rfl⟩
      unfold Builtin.«set.__init__» noKeywords Builtin.Frozenset.updateFrom
      generalize hpi : pyIter = pi
      wp_walk
      subst hpi
      refine wpAny_pyIter_list il (wpAny_bind (wpAny_runValue ?_))
      have lS : l < s.heap.objs.size := Heap.lt_size ho
      have hh3 : A.in1.in1.in1.handled = none := by simp [hh]
      have sz : (s.heap.push (emptyS w)).objs.size = s.heap.objs.size + 1 := Heap.size_push ..
      have lI : l ≠ (s.heap.push (emptyS w)).objs.size := by rw [sz]; exact Nat.ne_of_lt (Nat.lt_succ_of_lt lS)
      have nf : s.heap.objs.size ∉ [(s.heap.push (emptyS w)).objs.size, l] := by
        rw [sz]
        simp only [List.mem_cons, List.not_mem_nil, or_false, not_or]
        exact ⟨Nat.ne_of_lt (Nat.lt_succ_self _), Nat.ne_of_gt lS⟩
      refine setLoop ((Walks.list hh3 _ l lI items).toS) s.heap.objs.size nf (fun i => ns.getD i 0) (fun i v hv => IntsAre.int_at hi i v (by rw [Array.getElem?_toList]; exact hv)) hb items.size 0 _ (by omega) ⟨⟨_, Heap.get?_push_size _ rfl, rfl, rfl⟩, (il.push _)⟩ ?first ?rest
      case first => exact SetR.at (setR_fresh w) fun o e => Heap.get?_push_of_some _ e
      case rest =>
        intro s3 hm hS
        obtain ⟨h3, g3, d3, t3, o3⟩ := s3
        obtain rfl : g3 = s.gens := hm.gens
        obtain rfl : d3 = s.drawn := hm.drawn
        obtain rfl : o3 = s.os := hm.os
        show wpAny _ _ _ _ _ _
        refine wpAny_pure ?_
        show wpAny _ _ (ret Value.none) _ _ _
        refine wpAny_pure ⟨rfl, h3, t3, rfl, hS, fun b o e => hm.heap b o ?_ (Heap.get?_push_of_some _ (Heap.get?_push_of_some _ e))⟩
        have lb := Heap.lt_size e
        rw [sz]
        simp only [List.mem_cons, List.not_mem_nil, or_false, not_or]
        exact ⟨Nat.ne_of_lt lb, Nat.ne_of_lt (Nat.lt_succ_of_lt lb)⟩
    · match r2, hr2 with
      | .error e, hr2 => exact hr2
      | .ok (.ret v), hr2 =>
        obtain ⟨rfl, h', tk, rfl, hS, hk⟩ := hr2
        repeat (any_goals (first | assumption | wp_step))
        exact h _ _ hS hk
      | .ok .next, hr2 => exact hr2.elim
      | .ok .brk, hr2 => exact hr2.elim
      | .ok .cont, hr2 => exact hr2.elim
  | .ok .next, hr => exact hr.elim
  | .ok .brk, hr => exact hr.elim
  | .ok .cont, hr => exact hr.elim
end
section
variable {X : Cx}
/-- set(l), l a list of ints -/
def rSetI (K : PySem.W.Frag) (w : World) : List V → Hp → VK → Prop := fun vs H Q => ∃ (l : Addr) (ns : List Int), vs = [.ref l] ∧ SqL K H l (ns.map V.int) ∧ ns.length < 1000 ∧
  ∀ p (S : Int → Bool) (L : List Int), H p = none → (∀ k, S k = true ↔ k ∈ ns) → L.Nodup → (∀ k, k ∈ L ↔ k ∈ ns) → Q (.ref p) (upd H p (SetO w p S L.length))
theorem cr_setI (hc : X.calm = true) : CallR X (.type "set") (rSetI X.K X.w) := by
  intro pins s σ H vs us Q I r h
  obtain ⟨l, ns, rfl, hl, hn, q⟩ := h
  rw [Vals.ref1 r]
  obtain ⟨its, rv, pl, hz⟩ := I.list hl
  have sz : its.toArray.size = ns.length := by rw [List.size_toArray, ← rv.length, List.length_map]
  have hp : H s.heap.objs.size = none := I.hok.fresh (Nat.le_refl _)
  refine setOfInts (I.ok.hd hc) pl.isList (ns := ns) (by simpa using rv.ints) (by unfold scanBound; omega) fun h' tk hS hk => ?_
  have mem : ∀ k, inF (fun i => ns.getD i 0) its.toArray.size k = true ↔ k ∈ ns := fun k => by
    show (firstMet _ _).any _ = true ↔ _
    rw [firstMet_any, sz, List.any_eq_true]
    constructor
    · rintro ⟨x, hx, e⟩
      obtain ⟨i, hi, rfl⟩ := List.mem_map.mp hx
      have hi := List.mem_range.mp hi
      rw [← beq_iff_eq.mp e, List.getD_eq_getElem?_getD, List.getElem?_eq_getElem hi]
      exact List.getElem_mem hi
    · intro hm
      obtain ⟨i, hi, rfl⟩ := List.mem_iff_getElem.mp hm
      refine ⟨_, List.mem_map.mpr ⟨i, List.mem_range.mpr hi, rfl⟩, ?_⟩
      rw [List.getD_eq_getElem?_getD, List.getElem?_eq_getElem hi]
      exact beq_self_eq_true _
  have S0 := hS
  obtain ⟨o, es, ep, t, _, _, _, _, nd, me, _, _, hn2, _⟩ := S0
  have ln : (es.toList.map keyOf).length = (firstMet (fun i => ns.getD i 0) its.toArray.size).length := by rw [List.length_map, Array.length_toList]; exact hn2
  rw [← ln] at hS
  exact ⟨.ref s.heap.objs.size, _, I.laid (t' := tk) hk (Nat.le_refl _) (setO_new hS), rfl, q _ _ _ hp mem nd fun k => (me k).symm.trans (mem k)⟩
end
end SetZ
end
section
set_option linter.all false
set_option maxRecDepth 100000
set_option maxHeartbeats 3200000
/-! sorted(t) of a tuple of ints -/
namespace SetZ
open PySem PySem.Spec PyProof.Rows L2
section
variable {P : Program} {w : World} {A : Around} {E : Value → Shared → Prop} {s : Shared}
abbrev grown (h : Heap) (vs : List Value) : Heap := (h.push (seqObj "list" #[] 0)).update h.objs.size (Obj.mapSeq (· ++ vs.toArray))
theorem collTup {t : Addr} {vs : List Value} {o : Obj} {n : Nat} {Q : List Value → Shared → Prop} (ho : s.heap.get? t = some o) (hc : o.cls = .type "tuple") (hd : o.data = .seq vs.toArray n) (hz : vs.length ≤ sizeLine)
    (h : Q vs { s with heap := grown s.heap vs }) : wpAny (model P w) A (collect (.ref t)) Q E s := by
  have z1 : (s.heap.push (seqObj "list" #[] 0)).get? s.heap.objs.size = some (seqObj "list" #[] 0) := Heap.get?_push_size _ rfl
  have z2 := Heap.get?_update_self (Obj.mapSeq (· ++ vs.toArray)) z1 rfl
  have last : wpAny (model P w) A (match Value.ref s.heap.objs.size with
      | Value.ref a => (do
        match (← load a).data with
          | Data.seq xs _ => pure xs.toList
          | _ => unsupported "internal:collect")
      | _ => unsupported "internal:collect") Q E { s with heap := grown s.heap vs } := by
    refine wpAny_bind (m := load s.heap.objs.size) (wpAny_load z2 ?_)
    refine wpAny_pure ?_
    show Q ((#[] : Array Value) ++ vs.toArray).toList _
    rw [show ((#[] : Array Value) ++ vs.toArray).toList = vs by simp]
    exact h
  unfold collect
  refine wpAny_bind (wpAny_runValue (codeAny_builtin F.entry_proto_collect ?_))
  rw [Around.under_plainId F.plain_proto_collect _]
  refine wpAny_bind (m := newList []) (wpAny_newObj_type ?_)
  refine wpAny_pure ⟨plainId_quiet F.plain_list_iadd _, codeAny_builtin F.entry_list_iadd ?_⟩
  rw [Around.under_plainId F.plain_list_iadd _]
  refine wpAny_mono (wpAny_extend_seq (hsz := by simpa using hz) (A := A) (R := fun r s' => r = .ok (.ret (.ref s.heap.objs.size)) ∧ s' = { s with heap := grown s.heap vs }) (s := { s with heap := s.heap.push (seqObj "list" #[] 0) }) _ t _ 0 (.inr rfl) z1 (Heap.get?_push_of_some _ ho) hc hd ⟨rfl, rfl⟩) (fun fi s' q => ?_) (fun e s' q => ?_)
  · cases fi with
    | done f =>
      obtain ⟨e, rfl⟩ := q
      cases e
      exact last
    | again c' => exact ⟨q.1, codeAny_mono q.2 fun r s'' hr => by obtain ⟨rfl, rfl⟩ := hr; exact last⟩
  · exact absurd q.1 (by simp)
theorem sortedTup {t : Addr} {vs : List Value} {o : Obj} {n : Nat} {ns : List Int} {Q : Value → Shared → Prop} (ho : s.heap.get? t = some o) (hc : o.cls = .type "tuple") (hd : o.data = .seq vs.toArray n) (hz : vs.length ≤ sizeLine) (hi : IntsAre vs ns)
    (h : ∀ out : List Value, SrtO.Srtd SrtO.ltIv out → SrtO.Stb SrtO.ltIv out vs → Q (.ref (s.heap.objs.size + 1)) { s with heap := sortedAll s.heap vs out.toArray }) : wpAny (model P w) A (call (.builtin "sorted") [.ref t]) Q E s := by
  refine Calls.call_function_entry kind_sorted plain_sorted entry_sorted (args_sorted1 _) ?_
  unfold Builtin.«sorted»
  refine wpAny_bind (m := checkCount "sorted" 1 1 _) (wpAny_pure (wpAny_bind (collTup ho hc hd hz (wpAny_bind (wpAny_newList ?_ hz)))))
  have sz : (grown s.heap vs).objs.size = s.heap.objs.size + 1 := by rw [Heap.size_update, size_push']
  have at_ : ((grown s.heap vs).push (seqObj "list" vs.toArray 0)).get? (s.heap.objs.size + 1) = some (seqObj "list" vs.toArray 0) := by
    rw [← sz]; exact Heap.get?_push_size _ rfl
  show wpAny _ _ _ _ _ { s with heap := (grown s.heap vs).push (seqObj "list" vs.toArray 0) }
  rw [sz]
  exact wpAny_bind (wpAny_holding (wpAny_call_entry slot_list_sort ⟨_, at_, rfl⟩ entry_list_sort (SrtO.list_sort_ord SrtO.swo_int at_ hz (fun h2 => SrtO.ints_sortable hi h2) fun out h1 h2 => ⟨_, rfl, wpAny_pure ⟨_, rfl, h out h1 h2⟩⟩) (args_list_sort _)))
end
section
variable {X : Cx}
def rSortedTI (K : PySem.W.Frag) : List V → Hp → VK → Prop := fun vs H Q => ∃ (a : Addr) (ns : List Int), vs = [V.ref a] ∧ SqT K H a (ns.map V.int) ∧
  ∀ (ns' : List Int) (p : Addr), ns'.Perm ns → ns'.Pairwise (· ≤ ·) → H p = none → Q (.ref p) (upd H p (.lst (ns'.map V.int)))
theorem cr_sortedTI : CallR X (.builtin "sorted") (rSortedTI X.K) := by
  intro pins s σ H vs us Q I r h
  obtain ⟨a, ns, rfl, hs, q⟩ := h
  obtain ⟨its, rv, ⟨o, ho, hc, n, hd⟩, hz⟩ := I.tuple hs
  rw [Vals.ref1 r]
  have hi := rv.ints
  have hz' : its.length ≤ sizeLine := by
    rw [← rv.length]; exact hz
  refine sortedTup ho hc hd hz' hi fun out h1 h2 => ?_
  obtain ⟨k1, k2, k3⟩ := SrtO.ints_out hi h1 h2
  obtain ⟨ep, at_⟩ := sortedAll_at s.heap its out.toArray
  have ln : ((out.map SrtO.iv).map V.int).length ≤ sizeLine := by
    rw [List.length_map, k2.length_eq, ← List.length_map (f := V.int), rv.length]; exact hz'
  exact ⟨.ref _, upd H (s.heap.objs.size + 1) (.lst ((out.map SrtO.iv).map V.int)), I.laid (t' := s.toks) (fun _ _ => sortedAll_old) (Nat.le_succ _) ⟨ln, out, ep, vals_of_ints k1, at_⟩, rfl, q _ _ k2 k3 (I.hok.fresh (Nat.le_succ _))⟩
end
end SetZ
end
section
set_option linter.all false
set_option maxRecDepth 100000
set_option maxHeartbeats 2000000
/-! soundness 1: what data stands for, steps, the readings -/
namespace Ev
open PySem L2
abbrev Frag := PySem.W.Frag

/-- what stands at once: no thing, a bool, an int, a text -/
def atomV : D → Option V
  | .none => some .non
  | .bool b => some (.bl b)
  | .int i => some (.int i)
  | .str x => some (.str x)
  | _ => none
def FlatL : List D → List V → Prop
  | [], vs => vs = []
  | d :: ds, vs => ∃ v r, vs = v :: r ∧ atomV d = some v ∧ FlatL ds r
/-- a field of a kept instance: flat, or a tuple of flat ones -/
def RepF (K : Frag) (H : Hp) : D → V → Prop
  | .tuple ds, v => ∃ a vs, v = .ref a ∧ SqT K H a vs ∧ FlatL ds vs
  | d, v => atomV d = some v
def RepFs (K : Frag) (H : Hp) : List D → List V → Prop
  | [], vs => vs = []
  | d :: ds, vs => ∃ v r, vs = v :: r ∧ RepF K H d v ∧ RepFs K H ds r
/-- an exception of the class x, its fields (flat ones) -/
def RepX (K : Frag) (H : Hp) (kvs : List (D × D)) (v : V) : Prop := ∃ (x : Str) (l : List D) (a dd : Addr) (fs : List (Str × V)),
  kvs = [(.str x, .list l)] ∧ v = .ref a ∧ H a = some (xob a (.ref (He.ga K x)) (some dd)) ∧ H dd = some (.xd fs) ∧ ∀ f d, xfL f l = some d → ∃ w, fs.lookup f = some w ∧ atomV d = some w
/-- an instance of the class x that nobody changes, its slots -/
def RepO (K : Frag) (H : Hp) (kvs : List (D × D)) (v : V) : Prop := ∃ (x : Str) (ds : List D) (a dx : Addr) (vs : List V),
  kvs = [(.str x, .tuple ds)] ∧ v = .ref a ∧ SlX.Slt H a (He.ga K x) dx (vs.map some) ∧ RepFs K H ds vs
mutual
def Rep (K : Frag) (Av : Addr → Prop) (H : Hp) : D → V → Prop
  | .none, v => v = .non
  | .bool b, v => v = .bl b
  | .int i, v => v = .int i
  | .str x, v => v = .str x
  | .list ds, v => ∃ a vs, v = .ref a ∧ ¬ Av a ∧ H a = some (.lst vs) ∧ RepL K Av H ds vs
  | .tuple ds, v => ∃ a vs, v = .ref a ∧ SqT K H a vs ∧ RepL K Av H ds vs
  | .dict kvs, v => RepO K H kvs v ∨ RepX K H kvs v
def RepL (K : Frag) (Av : Addr → Prop) (H : Hp) : List D → List V → Prop
  | [], vs => vs = []
  | d :: ds, vs => ∃ v r, vs = v :: r ∧ Rep K Av H d v ∧ RepL K Av H ds r
end

/-- an instance's data: no exception -/
theorem rep_inst {K : Frag} {Av : Addr → Prop} {H : Hp} {c : Str} {ds : List D} {v : V} (h : Rep K Av H (.dict [(.str c, .tuple ds)]) v) : RepO K H [(.str c, .tuple ds)] v := by
  rcases h with h | h
  · exact h
  · obtain ⟨x, l, a, dd, fs, e1, _⟩ := h
    cases e1
theorem rep_exc {K : Frag} {Av : Addr → Prop} {H : Hp} {c : Str} {l : List D} {v : V} (h : Rep K Av H (.dict [(.str c, .list l)]) v) : RepX K H [(.str c, .list l)] v := by
  rcases h with h | h
  · obtain ⟨x, ds, a, dx, vs, e1, _⟩ := h
    cases e1
  · exact h
section
variable {K : Frag} {Av Av' : Addr → Prop} {H H' : Hp}
theorem RepL.length : ∀ {ds : List D} {vs : List V}, RepL K Av H ds vs → ds.length = vs.length
  | [], _, h => by rw [show _ = [] from h]; rfl
  | d :: ds, _, h => by
    obtain ⟨v, r, rfl, _, h2⟩ := h
    simp [RepL.length h2]

theorem RepL.nil : RepL K Av H [] [] := rfl
theorem RepL.cons {d : D} {ds : List D} {v : V} {vs : List V} (h : Rep K Av H d v) (t : RepL K Av H ds vs) : RepL K Av H (d :: ds) (v :: vs) := ⟨v, vs, rfl, h, t⟩

theorem RepL.append : ∀ {ds es : List D} {vs ws : List V}, RepL K Av H ds vs → RepL K Av H es ws → RepL K Av H (ds ++ es) (vs ++ ws)
  | [], _, _, _, h, t => by rw [show _ = [] from h]; exact t
  | d :: ds, _, _, _, h, t => by
    obtain ⟨v, r, rfl, h1, h2⟩ := h
    exact ⟨v, _, rfl, h1, RepL.append h2 t⟩

theorem RepL.get : ∀ {ds : List D} {vs : List V} {i : Nat} {d : D}, RepL K Av H ds vs → ds[i]? = some d → ∃ v, vs[i]? = some v ∧ Rep K Av H d v
  | [], _, _, _, _, e => by simp at e
  | d :: ds, _, 0, _, h, e => by
    obtain ⟨v, r, rfl, h1, h2⟩ := h
    simp at e; subst e
    exact ⟨v, rfl, h1⟩
  | d :: ds, _, i + 1, _, h, e => by
    obtain ⟨v, r, rfl, h1, h2⟩ := h
    obtain ⟨w, e1, e2⟩ := RepL.get (i := i) h2 (by simpa using e)
    exact ⟨w, by simpa using e1, e2⟩
theorem RepL.getV : ∀ {ds : List D} {vs : List V} {i : Nat} {v : V}, RepL K Av H ds vs → vs[i]? = some v → ∃ d, ds[i]? = some d ∧ Rep K Av H d v := fun {ds vs i v} h e => by
  have hl := h.length
  have hi : i < vs.length := (List.getElem?_eq_some_iff.mp e).1
  obtain ⟨w, e1, e2⟩ := h.get (i := i) (d := ds[i]'(by omega)) (by simp)
  rw [e] at e1; cases e1
  exact ⟨_, by simp, e2⟩

theorem RepL.take : ∀ {ds : List D} {vs : List V} (n : Nat), RepL K Av H ds vs → RepL K Av H (ds.take n) (vs.take n)
  | _, _, 0, _ => by simp [RepL]
  | [], _, n + 1, h => by rw [show _ = [] from h]; simp [RepL]
  | d :: ds, _, n + 1, h => by
    obtain ⟨v, r, rfl, h1, h2⟩ := h
    exact ⟨v, _, rfl, h1, RepL.take n h2⟩
theorem RepL.drop : ∀ {ds : List D} {vs : List V} (n : Nat), RepL K Av H ds vs → RepL K Av H (ds.drop n) (vs.drop n)
  | _, _, 0, h => h
  | [], _, n + 1, h => by rw [show _ = [] from h]; simp [RepL]
  | d :: ds, _, n + 1, h => by
    obtain ⟨v, r, rfl, h1, h2⟩ := h
    exact RepL.drop n h2
theorem RepL.reverse : ∀ {ds : List D} {vs : List V}, RepL K Av H ds vs → RepL K Av H ds.reverse vs.reverse
  | [], _, h => by rw [show _ = [] from h]; exact .nil
  | d :: ds, _, h => by
    obtain ⟨v, r, rfl, h1, h2⟩ := h
    rw [List.reverse_cons, List.reverse_cons]
    exact RepL.append (RepL.reverse h2) (.cons h1 .nil)
theorem RepL.set : ∀ {ds : List D} {vs : List V} {d : D} {v : V} (i : Nat), RepL K Av H ds vs → Rep K Av H d v → RepL K Av H (ds.set i d) (vs.set i v)
  | [], _, _, _, _, h, _ => by rw [show _ = [] from h]; exact .nil
  | d :: ds, _, _, _, 0, h, q => by
    obtain ⟨v, r, rfl, h1, h2⟩ := h
    exact ⟨_, r, rfl, q, h2⟩
  | d :: ds, _, _, _, i + 1, h, q => by
    obtain ⟨v, r, rfl, h1, h2⟩ := h
    exact ⟨_, _, rfl, h1, RepL.set i h2 q⟩
theorem RepL.rep {ds : List D} {vs : List V} (h : RepL K Av H ds vs) : ∀ n : Nat, RepL K Av H (repL n ds) (List.replicate n vs).flatten
  | 0 => .nil
  | n + 1 => by
    show RepL K Av H (List.replicate (n + 1) ds).flatten _
    rw [List.replicate_succ, List.replicate_succ, List.flatten_cons, List.flatten_cons]
    exact h.append (RepL.rep h n)

/-- what is no list stays -/
def NoL (H H' : Hp) : Prop := ∀ a o, (∀ ws, o ≠ HO.lst ws) → H a = some o → H' a = some o
theorem NoL.sqT (h : NoL H H') {a : Addr} {vs : List V} (q : SqT K H a vs) : SqT K H' a vs := by
  rcases q with (q | ⟨o, q⟩) | q
  · exact .inl (.inl (h a _ (fun _ z => by cases z) q))
  · exact .inl (.inr ⟨o, h a _ (fun _ z => by cases z) q⟩)
  · exact .inr q
theorem NoL.slt (h : NoL H H') {a C dx : Addr} {vs : List (Option V)} (q : SlX.Slt H a C dx vs) : SlX.Slt H' a C dx vs := by
  rcases q with ⟨q1, q2⟩ | ⟨q1, q2⟩
  · exact .inl ⟨h a _ (fun _ z => by cases z) q1, q2⟩
  · exact .inr ⟨h a _ (fun _ z => by unfold SlX.SlO at z; cases z) q1, h dx _ (fun _ z => by cases z) q2⟩
theorem NoL.repF (h : NoL H H') : ∀ {d : D} {v : V}, RepF K H d v → RepF K H' d v
  | .none, _, q => q
  | .bool _, _, q => q
  | .int _, _, q => q
  | .str _, _, q => q
  | .list _, _, q => q
  | .tuple ds, _, q => by
    obtain ⟨a, vs, e, s, f⟩ := q
    exact ⟨a, vs, e, h.sqT s, f⟩
  | .dict _, _, q => q
theorem NoL.repFs (h : NoL H H') : ∀ {ds : List D} {vs : List V}, RepFs K H ds vs → RepFs K H' ds vs
  | [], _, q => q
  | d :: ds, _, q => by
    obtain ⟨v, r, e, f, t⟩ := q
    exact ⟨v, r, e, h.repF f, h.repFs t⟩
theorem NoL.repO (h : NoL H H') {kvs : List (D × D)} {v : V} (q : RepO K H kvs v) : RepO K H' kvs v := by
  obtain ⟨x, ds, a, dx, vs, e1, e2, s, f⟩ := q
  exact ⟨x, ds, a, dx, vs, e1, e2, h.slt s, h.repFs f⟩
theorem NoL.repX (h : NoL H H') {kvs : List (D × D)} {v : V} (q : RepX K H kvs v) : RepX K H' kvs v := by
  obtain ⟨x, l, a, dd, fs, e1, e2, e3, e4, f⟩ := q
  exact ⟨x, l, a, dd, fs, e1, e2, h a _ (fun ws z => by unfold xob at z; cases z) e3, h dd _ (fun _ z => by cases z) e4, f⟩
theorem NoL.lst {a : Addr} {vs ws : List V} (e : H a = some (.lst vs)) : NoL H (upd H a (.lst ws)) := fun b o no q => by
  rw [upd_ne (fun z => by rw [z, e] at q; cases q; exact no _ rfl)]; exact q
theorem NoL.refl : NoL H H := fun _ _ _ e => e
mutual
theorem Rep.stab (hl : ∀ a vs, H a = some (.lst vs) → ¬ Av a → H' a = some (.lst vs) ∧ ¬ Av' a) (ht : NoL H H') : ∀ (d : D) (v : V), Rep K Av H d v → Rep K Av' H' d v
  | .none, _, h => h
  | .bool _, _, h => h
  | .int _, _, h => h
  | .str _, _, h => h
  | .list ds, _, h => by
    obtain ⟨a, vs, rfl, na, e, r⟩ := h
    obtain ⟨e', na'⟩ := hl a vs e na
    exact ⟨a, vs, rfl, na', e', RepL.stab hl ht ds vs r⟩
  | .tuple ds, _, h => by
    obtain ⟨a, vs, rfl, e, r⟩ := h
    exact ⟨a, vs, rfl, ht.sqT e, RepL.stab hl ht ds vs r⟩
  | .dict _, _, h => h.imp ht.repO ht.repX
theorem RepL.stab (hl : ∀ a vs, H a = some (.lst vs) → ¬ Av a → H' a = some (.lst vs) ∧ ¬ Av' a) (ht : NoL H H') : ∀ (ds : List D) (vs : List V), RepL K Av H ds vs → RepL K Av' H' ds vs
  | [], _, h => h
  | d :: ds, _, h => by
    obtain ⟨v, r, rfl, h1, h2⟩ := h
    exact ⟨v, r, rfl, Rep.stab hl ht d v h1, RepL.stab hl ht ds r h2⟩
end

/-- to the layer's own data -/
theorem SqL_of (e : H a = some (.lst vs)) : SqL K H a vs := .inl (.inl e)
mutual
theorem Rep.dp : ∀ (d : D) (v : V), d.canLay0 = true → Rep K Av H d v → Dp K H v d
  | .none, _, _, h => by rw [show _ = V.non from h]; exact .non
  | .bool b, _, _, h => by rw [show _ = V.bl b from h]; exact .bl b
  | .int i, _, _, h => by rw [show _ = V.int i from h]; exact .int i
  | .str x, _, _, h => by rw [show _ = V.str x from h]; exact .str x
  | .list ds, _, c, h => by
    obtain ⟨a, vs, rfl, na, e, r⟩ := h
    exact .lst (SqL_of e) (RepL.dp ds vs (by simpa only [PyData.canLay0] using c) r)
  | .tuple ds, _, c, h => by
    obtain ⟨a, vs, rfl, e, r⟩ := h
    exact .tup e (RepL.dp ds vs (by simpa only [PyData.canLay0] using c) r)
  | .dict _, _, c, h => by simp [PyData.canLay0] at c
theorem RepL.dp : ∀ (ds : List D) (vs : List V), PyData.canLayAll0 ds = true → RepL K Av H ds vs → DpAll K H vs ds
  | [], _, _, h => by rw [show _ = [] from h]; exact .nil
  | d :: ds, _, c, h => by
    simp only [PyData.canLayAll0, Bool.and_eq_true] at c
    obtain ⟨v, r, rfl, h1, h2⟩ := h
    exact .cons (Rep.dp d v c.1 h1) (RepL.dp ds r c.2 h2)
end
end

/-- a list that is read only -/
def SqR (K : Frag) (H : Hp) (a : Addr) (xs : List V) : Prop := (∃ o, H a = some (.frz o (.lst xs))) ∨
  ∃ (o : Obj) (its : Array Value) (n : Nat), K.lookup a = some o ∧ o.cls = .type "list" ∧ o.dict = none ∧ o.data = .seq its n ∧ its.size ≤ sizeLine ∧ Vals xs its.toList
theorem SqR.sq {K : Frag} {H : Hp} {a : Addr} {xs : List V} (h : SqR K H a xs) : SqL K H a xs := h.elim (fun ⟨o, e⟩ => .inl (.inr ⟨o, e⟩)) .inr
def SRep (K : Frag) (Av : Addr → Prop) (H : Hp) : Slot → V → Prop
  | .val d, v => Rep K Av H d v
  | .own ds, v => ∃ a vs, v = .ref a ∧ H a = some (.lst vs) ∧ RepL K Av H ds vs
  | .rd ds, v => ∃ a vs, v = .ref a ∧ SqR K H a vs ∧ RepL K Av H ds vs

/-- the addresses that the env's owned lists stand at -/
def Own (σ : St) (env : Env) (a : Addr) : Prop := ∃ i ds, getS env i = some (.own ds) ∧ σ[i]? = some (some (.ref a))
def Avd (B : Addr → Prop) (σ : St) (env : Env) (a : Addr) : Prop := B a ∨ Own σ env a

structure EnvOk (K : Frag) (B : Addr → Prop) (H : Hp) (σ : St) (env : Env) : Prop where
  len : env.length = σ.length
  rep : ∀ i s, getS env i = some s → ∃ v, σ[i]? = some (some v) ∧ SRep K (Avd B σ env) H s v
  uniq : ∀ i j ds es a, getS env i = some (.own ds) → getS env j = some (.own es) → σ[i]? = some (some (.ref a)) → σ[j]? = some (some (.ref a)) → i = j
  bd : ∀ a, B a → H a ≠ none
  bo : ∀ a, Own σ env a → ¬ B a

structure Step (Fx : Nat → Prop) (σ : St) (env : Env) (H : Hp) (σ' : St) (env' : Env) (H' : Hp) : Prop where
  keep : ∀ a o, H a = some o → ¬ Own σ env a → H' a = some o
  own : ∀ a, Own σ' env' a → Own σ env a ∨ H a = none
  fx : ∀ i, Fx i → σ'[i]? = σ[i]?

section
variable {K : Frag} {B : Addr → Prop} {H H' H1 H2 : Hp} {σ σ1 σ2 : St} {env env1 env2 : Env} {Fx : Nat → Prop}

theorem EnvOk.ownAt (ok : EnvOk K B H σ env) {a : Addr} (h : Own σ env a) : ∃ vs, H a = some (.lst vs) := by
  obtain ⟨i, ds, e, q⟩ := h
  obtain ⟨v, q', r⟩ := ok.rep i _ e
  rw [q] at q'; cases q'
  obtain ⟨a', vs, e1, e2, _⟩ := r
  cases e1
  exact ⟨vs, e2⟩

theorem Step.refl : Step Fx σ env H σ env H := ⟨fun _ _ h _ => h, fun _ h => .inl h, fun _ _ => rfl⟩
theorem Step.trans (a : Step Fx σ env H σ1 env1 H1) (b : Step Fx σ1 env1 H1 σ2 env2 H2) : Step Fx σ env H σ2 env2 H2 where
  keep := fun p o e n => b.keep p o (a.keep p o e n) fun q => (a.own p q).elim n fun z => by rw [e] at z; cases z
  own := fun p q => by
    rcases b.own p q with h | h
    · exact a.own p h
    · by_cases n : Own σ env p
      · exact .inl n
      · cases e : H p with
        | none => exact .inr rfl
        | some o => rw [a.keep p o e n] at h; cases h
  fx := fun i h => (b.fx i h).trans (a.fx i h)

theorem EnvOk.sqT (ok : EnvOk K B H σ env) (st : Step Fx σ env H σ1 env1 H1) {a : Addr} {vs : List V} (h : SqT K H a vs) : SqT K H1 a vs := by
  have nt : ∀ o, (∀ ws, o ≠ HO.lst ws) → H a = some o → H1 a = some o := fun o no e => st.keep a o e fun q => by
    obtain ⟨ws, q⟩ := ok.ownAt q
    rw [e] at q; cases q
    exact no ws rfl
  rcases h with (h | ⟨o, h⟩) | h
  · exact .inl (.inl (nt _ (fun _ z => by cases z) h))
  · exact .inl (.inr ⟨o, nt _ (fun _ z => by cases z) h⟩)
  · exact .inr h

theorem EnvOk.nol (ok : EnvOk K B H σ env) (st : Step Fx σ env H σ1 env1 H1) : NoL H H1 := fun a o no e => st.keep a o e fun q => by
  obtain ⟨ws, q⟩ := ok.ownAt q
  rw [e] at q; cases q
  exact no ws rfl
theorem EnvOk.lstS (ok : EnvOk K B H σ env) (st : Step Fx σ env H σ1 env1 H1) {a : Addr} {vs : List V} (h : H a = some (.lst vs)) (n : ¬ Avd B σ env a) : H1 a = some (.lst vs) ∧ ¬ Avd B σ1 env1 a :=
  ⟨st.keep a _ h fun q => n (.inr q), fun q => q.elim (fun b => n (.inl b)) fun o => (st.own a o).elim (fun o' => n (.inr o')) fun z => by rw [h] at z; cases z⟩

theorem Rep.step (ok : EnvOk K B H σ env) (st : Step Fx σ env H σ1 env1 H1) {d : D} {v : V} (h : Rep K (Avd B σ env) H d v) : Rep K (Avd B σ1 env1) H1 d v :=
  Rep.stab (fun _ _ e n => ok.lstS st e n) (ok.nol st) d v h
theorem RepL.step (ok : EnvOk K B H σ env) (st : Step Fx σ env H σ1 env1 H1) {d : List D} {v : List V} (h : RepL K (Avd B σ env) H d v) : RepL K (Avd B σ1 env1) H1 d v :=
  RepL.stab (fun _ _ e n => ok.lstS st e n) (ok.nol st) d v h

/-- the place of a value that nobody's name owns yet -/
def Tm (s : Slot) (v : V) (a : Addr) : Prop := (∃ ds, s = .own ds) ∧ v = .ref a
def Bt (B : Addr → Prop) (s : Slot) (v : V) (a : Addr) : Prop := B a ∨ Tm s v a
/-- a value, its state behind: where it is owned it is no other's -/
structure Post (K : Frag) (B : Addr → Prop) (Fx : Nat → Prop) (σ : St) (env : Env) (H : Hp) (env' : Env) (H' : Hp) (s : Slot) (v : V) : Prop where
  ok : EnvOk K (Bt B s v) H' σ env'
  st : Step Fx σ env H σ env' H'
  rep : SRep K (Avd (Bt B s v) σ env') H' s v
  new : ∀ a, Tm s v a → ¬ B a ∧ (Own σ env a ∨ H a = none)
  nrd : ∀ ds, s ≠ .rd ds

theorem EnvOk.mono {B' : Addr → Prop} (ok : EnvOk K B H σ env) (h : ∀ a, B' a → B a) : EnvOk K B' H σ env where
  len := ok.len
  rep := fun i s e => by
    obtain ⟨v, e1, r⟩ := ok.rep i s e
    have hl : ∀ a vs, H a = some (.lst vs) → ¬ Avd B σ env a → H a = some (.lst vs) ∧ ¬ Avd B' σ env a := fun a vs e n => ⟨e, fun q => n (q.elim (fun b => .inl (h a b)) .inr)⟩
    refine ⟨v, e1, ?_⟩
    cases s with
    | val d => exact Rep.stab hl .refl d v r
    | own ds =>
      obtain ⟨a, vs, e1, e2, e3⟩ := r
      exact ⟨a, vs, e1, e2, RepL.stab hl .refl ds vs e3⟩
    | rd ds =>
      obtain ⟨a, vs, e1, e2, e3⟩ := r
      exact ⟨a, vs, e1, e2, RepL.stab hl .refl ds vs e3⟩
  uniq := ok.uniq
  bd := fun a b => ok.bd a (h a b)
  bo := fun a o b => ok.bo a o (h a b)
theorem Rep.less {Av Av' : Addr → Prop} {d : D} {v : V} (h : Rep K Av H d v) (w : ∀ a, Av' a → Av a) : Rep K Av' H d v := Rep.stab (fun a _ e n => ⟨e, fun q => n (w a q)⟩) .refl d v h
theorem RepL.less {Av Av' : Addr → Prop} {d : List D} {v : List V} (h : RepL K Av H d v) (w : ∀ a, Av' a → Av a) : RepL K Av' H d v := RepL.stab (fun a _ e n => ⟨e, fun q => n (w a q)⟩) .refl d v h
theorem avd_less {B' : Addr → Prop} (h : ∀ a, B' a → B a) : ∀ a, Avd B' σ env a → Avd B σ env a := fun a q => q.elim (fun b => .inl (h a b)) .inr
theorem Post.ok' {env' : Env} {s : Slot} {v : V} (p : Post K B Fx σ env H env' H' s v) : EnvOk K B H' σ env' := p.ok.mono fun _ b => .inl b
theorem Post.dat {env' : Env} {s : Slot} {v : V} {d : D} (p : Post K B Fx σ env H env' H' s v) (e : s.dat = some d) : Rep K (Avd B σ env') H' d v := by
  cases s with
  | val d' => cases e; exact Rep.less p.rep (avd_less fun _ b => .inl b)
  | rd ds => cases e
  | own ds =>
    cases e
    obtain ⟨a, vs, e1, e2, e3⟩ := p.rep
    obtain ⟨n1, _⟩ := p.new a ⟨⟨ds, rfl⟩, e1⟩
    exact ⟨a, vs, e1, fun q => q.elim n1 fun o => p.ok.bo a o (.inr ⟨⟨ds, rfl⟩, e1⟩), e2, e3.less (avd_less fun _ b => .inl b)⟩

/-! a new object -/
theorem Step.new {p : Addr} {o : HO} (hp : H p = none) : Step Fx σ env H σ env (upd H p o) :=
  ⟨fun a u e _ => by rw [upd_ne (ne_of_none e hp)]; exact e, fun _ q => .inl q, fun _ _ => rfl⟩
theorem SRep.mono {Av Av' : Addr → Prop} (hl : ∀ a vs, H a = some (.lst vs) → ¬ Av a → H' a = some (.lst vs) ∧ ¬ Av' a) (ht : NoL H H')
    (ho : ∀ a vs, H a = some (.lst vs) → Av a → H' a = some (.lst vs)) (hr : ∀ a vs, SqR K H a vs → SqR K H' a vs) {s : Slot} {v : V} (h : SRep K Av H s v) : SRep K Av' H' s v := by
  cases s with
  | val d => exact Rep.stab hl ht d v h
  | own ds =>
    obtain ⟨a, vs, e1, e2, e3⟩ := h
    refine ⟨a, vs, e1, ?_, RepL.stab hl ht ds vs e3⟩
    by_cases q : Av a
    · exact ho a vs e2 q
    · exact (hl a vs e2 q).1
  | rd ds =>
    obtain ⟨a, vs, e1, e2, e4⟩ := h
    exact ⟨a, vs, e1, hr a vs e2, RepL.stab hl ht ds vs e4⟩
theorem nol_new {p : Addr} {o : HO} (hp : H p = none) : NoL H (upd H p o) := fun a u _ e => by rw [upd_ne (ne_of_none e hp)]; exact e
theorem sqT_new {p a : Addr} {o : HO} {vs : List V} (hp : H p = none) (h : SqT K H a vs) : SqT K (upd H p o) a vs := by
  rcases h with (h | ⟨u, h⟩) | h
  · exact .inl (.inl (by rw [upd_ne (ne_of_none h hp)]; exact h))
  · exact .inl (.inr ⟨u, by rw [upd_ne (ne_of_none h hp)]; exact h⟩)
  · exact .inr h
theorem sqR_new {p a : Addr} {o : HO} {vs : List V} (hp : H p = none) (h : SqR K H a vs) : SqR K (upd H p o) a vs := by
  rcases h with ⟨u, h⟩ | h
  · exact .inl ⟨u, by rw [upd_ne (ne_of_none h hp)]; exact h⟩
  · exact .inr h
theorem lst_new {p a : Addr} {o : HO} {vs : List V} (hp : H p = none) (h : H a = some (.lst vs)) : upd H p o a = some (.lst vs) := by
  rw [upd_ne (ne_of_none h hp)]; exact h
theorem RepL.new {Av : Addr → Prop} {p : Addr} {o : HO} (hp : H p = none) {ds : List D} {vs : List V} (h : RepL K Av H ds vs) : RepL K Av (upd H p o) ds vs :=
  RepL.stab (fun _ _ e n => ⟨lst_new hp e, n⟩) (nol_new hp) ds vs h
theorem Rep.new {Av : Addr → Prop} {p : Addr} {o : HO} (hp : H p = none) {d : D} {v : V} (h : Rep K Av H d v) : Rep K Av (upd H p o) d v :=
  Rep.stab (fun _ _ e n => ⟨lst_new hp e, n⟩) (nol_new hp) d v h
theorem EnvOk.new {p : Addr} {o : HO} (ok : EnvOk K B H σ env) (hp : H p = none) : EnvOk K B (upd H p o) σ env where
  len := ok.len
  rep := fun i s e => by
    obtain ⟨v, e1, r⟩ := ok.rep i s e
    exact ⟨v, e1, SRep.mono (fun _ _ e n => ⟨lst_new hp e, n⟩) (nol_new hp) (fun _ _ e _ => lst_new hp e) (fun _ _ e => sqR_new hp e) r⟩
  uniq := ok.uniq
  bd := fun a b => by
    have n := ok.bd a b
    by_cases e : a = p
    · subst e; exact absurd hp n
    · rw [upd_ne e]; exact n
  bo := ok.bo
theorem EnvOk.notB (ok : EnvOk K B H σ env) {p : Addr} (hp : H p = none) : ¬ B p := fun b => ok.bd p b hp
theorem EnvOk.notOwn (ok : EnvOk K B H σ env) {p : Addr} (hp : H p = none) : ¬ Own σ env p := fun o => by
  obtain ⟨_, e⟩ := ok.ownAt o
  rw [hp] at e; cases e
theorem Step.back {p : Addr} (st : Step Fx σ env H σ1 env1 H1) (hp : H1 p = none) : Own σ env p ∨ H p = none := by
  by_cases n : Own σ env p
  · exact .inl n
  · cases e : H p with
    | none => exact .inr rfl
    | some o => rw [st.keep p o e n] at hp; cases hp
theorem EnvOk.newB {p : Addr} {vs : List V} (ok : EnvOk K B H σ env) (hp : H p = none) : EnvOk K (fun a => B a ∨ a = p) (upd H p (.lst vs)) σ env where
  len := ok.len
  rep := fun i s e => by
    obtain ⟨v, e1, r⟩ := ok.rep i s e
    refine ⟨v, e1, SRep.mono (fun a ws e n => ⟨lst_new hp e, fun q => ?_⟩) (nol_new hp) (fun _ _ e _ => lst_new hp e) (fun _ _ e => sqR_new hp e) r⟩
    rcases q with (q | rfl) | q
    · exact n (.inl q)
    · rw [hp] at e; cases e
    · exact n (.inr q)
  uniq := ok.uniq
  bd := fun a b => by
    by_cases e : a = p
    · subst e; rw [upd_same]; intro z; cases z
    · rw [upd_ne e]; exact ok.bd a (b.resolve_right e)
  bo := fun a o b => b.elim (ok.bo a o) fun e => by subst e; exact ok.notOwn hp o
theorem Bt_own {p : Addr} {ds : List D} : ∀ a, Bt B (.own ds) (.ref p) a → (B a ∨ a = p) := fun a h => h.elim .inl fun ⟨_, e⟩ => by cases e; exact .inr rfl
theorem Bt_val {d : D} {v : V} : ∀ a, Bt B (.val d) v a → B a := fun a h => h.elim id fun ⟨⟨_, e⟩, _⟩ => by cases e
/-- a new list, owned -/
theorem Post.lst {p : Addr} {ds : List D} {vs : List V} (ok : EnvOk K B H1 σ env1) (st : Step Fx σ env H σ env1 H1) (hp : H1 p = none) (r : RepL K (Avd B σ env1) H1 ds vs) :
    Post K B Fx σ env H env1 (upd H1 p (.lst vs)) (.own ds) (.ref p) where
  ok := (ok.newB hp).mono Bt_own
  st := st.trans (Step.new hp)
  rep := ⟨p, vs, rfl, upd_same, RepL.stab (fun a ws e n => ⟨lst_new hp e, fun q => by
    rcases q with q | q
    · exact (Bt_own a q).elim (fun b => n (.inl b)) fun z => by subst z; rw [hp] at e; cases e
    · exact n (.inr q)⟩) (nol_new hp) ds vs r⟩
  new := fun a t => by
    obtain ⟨_, e⟩ := t
    cases e; exact ⟨ok.notB hp, st.back hp⟩
  nrd := fun _ e => by cases e
theorem Post.val {d : D} {v : V} (ok : EnvOk K B H1 σ env1) (st : Step Fx σ env H σ env1 H1) (r : Rep K (Avd B σ env1) H1 d v) : Post K B Fx σ env H env1 H1 (.val d) v where
  ok := ok.mono Bt_val
  st := st
  rep := Rep.less r (avd_less Bt_val)
  new := fun _ t => by obtain ⟨⟨_, e⟩, _⟩ := t; cases e
  nrd := fun _ e => by cases e
theorem Post.tup {p : Addr} {ds : List D} {vs : List V} (ok : EnvOk K B H1 σ env1) (st : Step Fx σ env H σ env1 H1) (hp : H1 p = none) (r : RepL K (Avd B σ env1) H1 ds vs) :
    Post K B Fx σ env H env1 (upd H1 p (.tup vs)) (.val (.tuple ds)) (.ref p) :=
  Post.val (ok.new hp) (st.trans (Step.new hp)) ⟨p, vs, rfl, SqT.of upd_same, r.new hp⟩
theorem Post.more {s : Slot} {v : V} {e2 : Env} (st : Step Fx σ env H σ env1 H1) (p : Post K B Fx σ env1 H1 e2 H2 s v) : Post K B Fx σ env H e2 H2 s v where
  ok := p.ok
  st := st.trans p.st
  rep := p.rep
  new := fun a t => by
    obtain ⟨h1, h3⟩ := p.new a t
    exact ⟨h1, h3.elim (fun o => st.own a o) fun n => st.back n⟩
  nrd := p.nrd

/-! names -/
theorem getS_set {e : Env} {i j : Nat} {s : Option Slot} : getS (e.set i s) j = if i = j ∧ i < e.length then s else getS e j := by
  unfold getS
  by_cases h : i = j
  · subst h
    by_cases hl : i < e.length
    · rw [if_pos ⟨rfl, hl⟩, List.getElem?_set_self hl]; rfl
    · rw [if_neg (fun q => hl q.2), List.getElem?_eq_none (by simpa using hl), List.getElem?_eq_none (by simpa using hl)]
  · rw [if_neg (fun q => h q.1), List.getElem?_set_ne h]
theorem getS_lt {e : Env} {i : Nat} {s : Slot} (h : getS e i = some s) : i < e.length := by
  unfold getS at h
  by_cases hl : i < e.length
  · exact hl
  · rw [List.getElem?_eq_none (by simpa using hl)] at h; cases h
/-- a name that owned holds its list as data from now on, or nothing -/
theorem EnvOk.less {i : Nat} {ds : List D} {so : Option Slot} (ok : EnvOk K B H σ env) (e : getS env i = some (.own ds)) (hs : so = none ∨ so = some (.val (.list ds))) :
    EnvOk K B H σ (env.set i so) ∧ Step Fx σ env H σ (env.set i so) H ∧ ∃ a vs, σ[i]? = some (some (.ref a)) ∧ H a = some (.lst vs) ∧ ¬ Avd B σ (env.set i so) a ∧ Own σ env a ∧ RepL K (Avd B σ env) H ds vs ∧ (∀ b, Avd B σ (env.set i so) b → Avd B σ env b) ∧
      EnvOk K (fun b => B b ∨ b = a) H σ (env.set i none) := by
  have hi := getS_lt e
  have g : ∀ j ds', getS (env.set i so) j = some (.own ds') → j ≠ i ∧ getS env j = some (.own ds') := fun j ds' h => by
    rw [getS_set] at h
    by_cases hj : i = j
    · rw [if_pos ⟨hj, hi⟩] at h
      rcases hs with rfl | rfl <;> cases h
    · rw [if_neg (fun q => hj q.1)] at h
      exact ⟨fun z => hj z.symm, h⟩
  obtain ⟨v, e1, a, vs, rfl, e2, e3⟩ := ok.rep i _ e
  have own' : ∀ b, Own σ (env.set i so) b → Own σ env b ∧ b ≠ a := fun b ⟨j, ds', h1, h2⟩ => by
    obtain ⟨n, h3⟩ := g j ds' h1
    refine ⟨⟨j, ds', h3, h2⟩, fun z => ?_⟩
    subst z
    exact n (ok.uniq j i _ _ b h3 e h2 e1)
  have av : ∀ b, Avd B σ (env.set i so) b → Avd B σ env b := fun b q => q.elim .inl fun o => .inr (own' b o).1
  have oa : Own σ env a := ⟨i, ds, e, e1⟩
  have na : ¬ Avd B σ (env.set i so) a := fun q => q.elim (ok.bo a oa) fun o => (own' a o).2 rfl
  have hl : ∀ b ws, H b = some (.lst ws) → ¬ Avd B σ env b → H b = some (.lst ws) ∧ ¬ Avd B σ (env.set i so) b := fun b ws q n => ⟨q, fun z => n (av b z)⟩
  have sm : ∀ {s : Slot} {v : V}, SRep K (Avd B σ env) H s v → SRep K (Avd B σ (env.set i so)) H s v := fun {s v} r => SRep.mono hl .refl (fun _ _ e _ => e) (fun _ _ e => e) r
  have own2 : ∀ b, Own σ (env.set i none) b → Own σ env b ∧ b ≠ a := fun b ⟨j, ds', h1, h2⟩ => by
    rw [getS_set] at h1
    by_cases hj : i = j
    · rw [if_pos ⟨hj, hi⟩] at h1; cases h1
    · rw [if_neg (fun q => hj q.1)] at h1
      refine ⟨⟨j, ds', h1, h2⟩, fun z => ?_⟩
      subst z
      exact hj (ok.uniq i j _ _ b e h1 e1 h2)
  have hl2 : ∀ b ws, H b = some (.lst ws) → ¬ Avd B σ env b → H b = some (.lst ws) ∧ ¬ Avd (fun b => B b ∨ b = a) σ (env.set i none) b := fun b ws q n => ⟨q, fun z => by
    rcases z with (z | rfl) | z
    · exact n (.inl z)
    · exact n (.inr oa)
    · exact n (.inr (own2 b z).1)⟩
  refine ⟨⟨by rw [List.length_set]; exact ok.len, fun j s h => ?_, fun j k ds1 ds2 b h1 h2 => ok.uniq j k ds1 ds2 b (g j _ h1).2 (g k _ h2).2, ok.bd, fun b o => ok.bo b (own' b o).1⟩,
    ⟨fun _ _ h _ => h, fun b o => .inl (own' b o).1, fun _ _ => rfl⟩, a, vs, e1, e2, na, oa, e3, av,
    ⟨by rw [List.length_set]; exact ok.len, fun j s h => ?_, fun j k ds1 ds2 b h1 h2 => ?_, fun b h => h.elim (ok.bd b) (fun z => by (subst z; rw [e2]; intro z; cases z)), fun b o h => h.elim (ok.bo b (own2 b o).1) (own2 b o).2⟩⟩
  · rw [getS_set] at h
    by_cases hj : i = j
    · rw [if_pos ⟨hj, hi⟩] at h
      subst hj
      rcases hs with rfl | rfl
      · cases h
      · cases h
        exact ⟨_, e1, a, vs, rfl, na, e2, e3.less av⟩
    · rw [if_neg (fun q => hj q.1)] at h
      obtain ⟨v, h1, h2⟩ := ok.rep j s h
      exact ⟨v, h1, sm h2⟩
  · rw [getS_set] at h
    by_cases hj : i = j
    · rw [if_pos ⟨hj, hi⟩] at h; cases h
    · rw [if_neg (fun q => hj q.1)] at h
      obtain ⟨v, h1, h2⟩ := ok.rep j s h
      exact ⟨v, h1, SRep.mono hl2 .refl (fun _ _ e _ => e) (fun _ _ e => e) h2⟩
  · rw [getS_set] at h1 h2
    by_cases hj : i = j
    · rw [if_pos ⟨hj, hi⟩] at h1; cases h1
    · by_cases hk : i = k
      · rw [if_pos ⟨hk, hi⟩] at h2; cases h2
      · rw [if_neg (fun q => hj q.1)] at h1
        rw [if_neg (fun q => hk q.1)] at h2
        exact ok.uniq j k ds1 ds2 b h1 h2
end

/-! ### results -/
def RRun {α : Type} (r : R α) (Qo : α → Env → Prop) (Qx : Nat → List D → Env → Prop) : Prop := match r with
  | .ok a e => Qo a e
  | .exc c ds e => Qx c ds e
  | .no => False
theorem RRun.bind {α β : Type} {r : R α} {f : α → Env → R β} {Qo : β → Env → Prop} {Qx : Nat → List D → Env → Prop} : RRun (r.bind f) Qo Qx ↔ RRun r (fun a e => RRun (f a e) Qo Qx) Qx := by
  cases r <;> exact Iff.rfl
theorem RRun.opt {α : Type} {o : Option α} {e : Env} {Qo : α → Env → Prop} {Qx : Nat → List D → Env → Prop} : RRun (R.opt o e) Qo Qx ↔ ∃ a, o = some a ∧ Qo a e := by
  cases o with
  | none => exact ⟨fun h => h.elim, fun ⟨_, h, _⟩ => by cases h⟩
  | some a => exact ⟨fun h => ⟨a, rfl, h⟩, fun ⟨_, h, q⟩ => by cases h; exact q⟩
theorem RRun.imp {α : Type} {r : R α} {Qo Qo' : α → Env → Prop} {Qx Qx' : Nat → List D → Env → Prop} (h : RRun r Qo Qx) (ho : ∀ a e, Qo a e → Qo' a e) (hx : ∀ c ds e, Qx c ds e → Qx' c ds e) : RRun r Qo' Qx' := by
  cases r with
  | ok a e => exact ho a e h
  | exc c ds e => exact hx c ds e h
  | no => exact h

/-- the law's own things: the written part, classes of errors and what their data is -/
structure Mdl where
  K : Frag
  cls : Nat → Value
  xr : Nat → List D → (Addr → Prop) → Hp → Option Addr → Prop
  xl : ∀ c ds Av Av' H dx, (∀ a, Av' a → Av a) → xr c ds Av H dx → xr c ds Av' H dx

structure XPost (M : Mdl) (B : Addr → Prop) (Fx : Nat → Prop) (σ : St) (env : Env) (H : Hp) (σ' : St) (env' : Env) (H' : Hp) (c : Nat) (ds : List D) (dx : Option Addr) : Prop where
  ok : EnvOk M.K B H' σ' env'
  st : Step Fx σ env H σ' env' H'
  x : M.xr c ds (Avd B σ' env') H' dx
def XQ (M : Mdl) (W : WX) (B : Addr → Prop) (Fx : Nat → Prop) (σ : St) (env : Env) (H : Hp) (c : Nat) (ds : List D) (env' : Env) : Prop :=
  ∀ H' dx, XPost M B Fx σ env H σ env' H' c ds dx → W (M.cls c) dx σ H'

theorem XQ.step {M : Mdl} {W : WX} {B : Addr → Prop} {Fx : Nat → Prop} {σ : St} {env env1 env2 : Env} {H H1 : Hp} {c : Nat} {ds : List D} (st : Step Fx σ env H σ env1 H1) (h : XQ M W B Fx σ env H c ds env2) : XQ M W B Fx σ env1 H1 c ds env2 :=
  fun H' dx p => h H' dx ⟨p.ok, st.trans p.st, p.x⟩

/-- the reading of an expression -/
def EvR (M : Mdl) (W : WX) (Fx : Nat → Prop) (r : Env → R Slot) : TE := fun σ H Q => ∃ B env, EnvOk M.K B H σ env ∧
  RRun (r env) (fun s env' => ∀ H' v, Post M.K B Fx σ env H env' H' s v → Q v H') (XQ M W B Fx σ env H)
/-- of a test -/
def TvR (M : Mdl) (W : WX) (Fx : Nat → Prop) (r : Env → R Bool) : TT := fun σ H Q => ∃ B env, EnvOk M.K B H σ env ∧
  RRun (r env) (fun b env' => ∀ H', EnvOk M.K B H' σ env' → Step Fx σ env H σ env' H' → Q b H') (XQ M W B Fx σ env H)

section
variable {M : Mdl} {W : WX} {Fx : Nat → Prop} {X : Cx} {e : Expr}
theorem pe_weak {t t' : TE} (h : PE X e t) (w : ∀ σ H Q, t' σ H Q → t σ H Q) : PE X e t' := ⟨fun pins s σ H Q I q => h.run pins s σ H Q I (w σ H Q q)⟩
theorem pt_weak {t t' : TT} (h : PT X e t) (w : ∀ σ H Q, t' σ H Q → t σ H Q) : PT X e t' := ⟨fun pins s σ H Q I q => h.run pins s σ H Q I (w σ H Q q)⟩

/-- the first part of a reading: then the rest at the state behind -/
theorem EvR.then {r : Env → R Slot} {σ : St} {H : Hp} {B : Addr → Prop} {env : Env} {Q : VK} {Qo : Slot → Env → Prop} (ok : EnvOk M.K B H σ env)
    (h : RRun (r env) Qo (XQ M W B Fx σ env H)) (k : ∀ s env' H' v, Qo s env' → Post M.K B Fx σ env H env' H' s v → Q v H') : EvR M W Fx r σ H Q :=
  ⟨B, env, ok, h.imp (fun s e' q H' v p => k s e' H' v q p) fun _ _ _ q => q⟩
theorem TvR.then {r : Env → R Bool} {σ : St} {H : Hp} {B : Addr → Prop} {env : Env} {Q : Bool → Hp → Prop} {Qo : Bool → Env → Prop} (ok : EnvOk M.K B H σ env)
    (h : RRun (r env) Qo (XQ M W B Fx σ env H)) (k : ∀ b env' H', Qo b env' → EnvOk M.K B H' σ env' → Step Fx σ env H σ env' H' → Q b H') : TvR M W Fx r σ H Q :=
  ⟨B, env, ok, h.imp (fun b e' q H' o s => k b e' H' q o s) fun _ _ _ q => q⟩
theorem xq_step {α : Type} {r : R α} {Qo : α → Env → Prop} {B : Addr → Prop} {σ : St} {env env1 : Env} {H H1 : Hp} (st : Step Fx σ env H σ env1 H1) (h : RRun r Qo (XQ M W B Fx σ env H)) : RRun r Qo (XQ M W B Fx σ env1 H1) :=
  h.imp (fun _ _ q => q) fun _ _ _ q => q.step st
end
end Ev
end
section
set_option linter.all false
set_option maxRecDepth 100000
set_option maxHeartbeats 2000000
/-! soundness 2: the operations by values -/
namespace Ev
open PySem L2

/-- as Rep; a list at the top may be an owned one -/
def Pk (K : Frag) (Av : Addr → Prop) (H : Hp) : D → V → Prop
  | .list ds, v => ∃ a vs, v = .ref a ∧ H a = some (.lst vs) ∧ RepL K Av H ds vs
  | d, v => Rep K Av H d v
def PkL (K : Frag) (Av : Addr → Prop) (H : Hp) : List D → List V → Prop
  | [], vs => vs = []
  | d :: ds, vs => ∃ v r, vs = v :: r ∧ Pk K Av H d v ∧ PkL K Av H ds r

section
variable {K : Frag} {Av : Addr → Prop} {H : Hp} {d : D} {v : V}
theorem Rep.pk : ∀ {d : D} {v : V}, Rep K Av H d v → Pk K Av H d v
  | .none, _, h => h
  | .bool _, _, h => h
  | .int _, _, h => h
  | .str _, _, h => h
  | .list _, _, h => by
    obtain ⟨a, vs, e, _, e2, r⟩ := h
    exact ⟨a, vs, e, e2, r⟩
  | .tuple _, _, h => h
  | .dict _, _, h => h
theorem RepL.pk : ∀ {ds : List D} {vs : List V}, RepL K Av H ds vs → PkL K Av H ds vs
  | [], _, h => h
  | d :: ds, _, h => by
    obtain ⟨v, r, e, h1, h2⟩ := h
    exact ⟨v, r, e, h1.pk, RepL.pk h2⟩
theorem SRep.pk {s : Slot} {d : D} (h : SRep K Av H s v) (e : s.dat = some d) : Pk K Av H d v := by
  cases s with
  | val d' => cases e; exact Rep.pk h
  | own ds => cases e; exact h
  | rd ds => cases e
theorem Pk.dp' : ∀ {d : D} {v : V}, d.canLay0 = true → Pk K Av H d v → Dp K H v d
  | .none, _, c, h => Rep.dp (Av := Av) _ _ c h
  | .bool _, _, c, h => Rep.dp (Av := Av) _ _ c h
  | .int _, _, c, h => Rep.dp (Av := Av) _ _ c h
  | .str _, _, c, h => Rep.dp (Av := Av) _ _ c h
  | .list _, _, c, h => by
    obtain ⟨a, vs, rfl, e2, r⟩ := h
    exact .lst (SqL_of e2) (RepL.dp _ _ (by simpa only [PyData.canLay0] using c) r)
  | .tuple _, _, c, h => Rep.dp (Av := Av) _ _ c h
  | .dict _, _, c, h => by simp [PyData.canLay0] at c
theorem Pk.dp {d : D} {v : V} (h : Pk K Av H d v) (c : SeqAt.shaped d = true) : Dp K H v d := Pk.dp' (SeqAt.canLay_of_shaped c) h
end

/-- what is wanted of an operation's value -/
def Fin (M : Mdl) (Fx : Nat → Prop) (Av : Addr → Prop) (B : Addr → Prop) (σ : St) (env : Env) (H : Hp) (s : Slot) (Q : VK) : Prop :=
  ∀ H' v, Post M.K B Fx σ env H env H' s v → Q v H'
def OpD (M : Mdl) (Fx : Nat → Prop) (g : D → D → Option Slot) : R2 := fun x y H Q => ∃ B σ env dx dy s, EnvOk M.K B H σ env ∧ Pk M.K (Avd B σ env) H dx x ∧ Pk M.K (Avd B σ env) H dy y ∧ g dx dy = some s ∧
  ∀ H' v, Post M.K B Fx σ env H env H' s v → Q v H'
def UnD (M : Mdl) (Fx : Nat → Prop) (g : D → Option Slot) : V → Hp → VK → Prop := fun x H Q => ∃ B σ env dx s, EnvOk M.K B H σ env ∧ Pk M.K (Avd B σ env) H dx x ∧ g dx = some s ∧
  ∀ H' v, Post M.K B Fx σ env H env H' s v → Q v H'
def CallD (M : Mdl) (Fx : Nat → Prop) (g : List D → Option Slot) : List V → Hp → VK → Prop := fun xs H Q => ∃ B σ env ds s, EnvOk M.K B H σ env ∧ PkL M.K (Avd B σ env) H ds xs ∧ g ds = some s ∧
  ∀ H' v, Post M.K B Fx σ env H env H' s v → Q v H'

section
variable {M : Mdl} {Fx : Nat → Prop} {B : Addr → Prop} {σ : St} {env : Env} {H : Hp} {Q : VK}
theorem fin_val {d : D} {v : V} (ok : EnvOk M.K B H σ env) (h : ∀ H' v, Post M.K B Fx σ env H env H' (.val d) v → Q v H') (r : Rep M.K (Avd B σ env) H d v) : Q v H := h H v (Post.val ok Step.refl r)
theorem fin_lst {ds : List D} {vs : List V} (ok : EnvOk M.K B H σ env) (h : ∀ H' v, Post M.K B Fx σ env H env H' (.own ds) v → Q v H') (r : RepL M.K (Avd B σ env) H ds vs) :
    ∀ p, H p = none → Q (.ref p) (upd H p (.lst vs)) := fun p hp => h _ _ (Post.lst ok Step.refl hp r)
theorem fin_tup {ds : List D} {vs : List V} (ok : EnvOk M.K B H σ env) (h : ∀ H' v, Post M.K B Fx σ env H env H' (.val (.tuple ds)) v → Q v H') (r : RepL M.K (Avd B σ env) H ds vs) :
    ∀ p, H p = none → Q (.ref p) (upd H p (.tup vs)) := fun p hp => h _ _ (Post.tup ok Step.refl hp r)
end

section
variable {X : Cx} {M : Mdl} {Fx : Nat → Prop}
theorem mulOk_c {i j : Int} (h : mulOk i j = true) : IntMulOk i j := by
  have b : ∀ x : Int, Builtin.Int.intBits x ≤ x.natAbs.log2 + 1 := fun x => by
    unfold Builtin.Int.intBits
    split <;> omega
  have h1 := b i
  have h2 := b j
  unfold mulOk at h
  rw [Bool.or_eq_true, Bool.or_eq_true] at h
  rcases h with (h | h) | h
  · have := of_decide_eq_true h
    exact IntMulOk.of_left (by omega)
  · have := of_decide_eq_true h
    exact IntMulOk.of_right (by omega)
  · exact CMulW.ok (of_decide_eq_true (p := i.natAbs.log2 + j.natAbs.log2 < 1000000) h)
open PySem.Spec PyProof.Rows in
theorem op_mulE : OpR X (binaryOp .Mult) (rI IntMulOk fun i j => .int (i * j)) := opI fun _ _ _ _ _ _ _ hc q => mul_int q hc
theorem divOk_c {j : Int} (i : Int) (h : divOk j = true) : CDivW i j := by
  unfold divOk at h
  simp only [Bool.and_eq_true, decide_eq_true_eq] at h
  exact h
theorem powOk_c {i j : Int} (h : powOk i j = true) : CPow i j := by
  unfold powOk at h
  simp only [Bool.and_eq_true, decide_eq_true_eq] at h
  exact ⟨h.1.1, h.1.2, h.2⟩
theorem if_some {α : Type} {b : Bool} {x y : α} (h : (if b = true then some x else none) = some y) : b = true ∧ x = y := by
  cases b with
  | false => simp at h
  | true => simp at h; exact ⟨rfl, h⟩

theorem od_add (hK : X.K = M.K) : OpR X (binaryOp .Add) (OpD M Fx (gBin .add)) := by
  subst_vars
  intro pins s σ' H x y v u Q I rx ry ⟨B, σ, env, dx, dy, sl, ok, px, py, hg, q⟩
  rw [← hK] at ok px py q
  unfold gBin at hg
  obtain ⟨d, hd, rfl⟩ := Option.map_eq_some_iff.mp hg
  unfold binD at hd
  split at hd
  all_goals try contradiction
  all_goals (rename_i e1; try cases e1)
  · cases hd; cases px; cases py
    exact op_add pins s σ' H _ _ v u Q I rx ry ⟨_, _, rfl, rfl, q _ _ (Post.val ok Step.refl rfl)⟩
  · obtain ⟨hz, rfl⟩ := if_some hd
    cases px; cases py
    exact op_add_str pins s σ' H _ _ v u Q I rx ry ⟨_, _, rfl, rfl, of_decide_eq_true hz, q _ _ (Post.val ok Step.refl rfl)⟩
  · obtain ⟨hz, rfl⟩ := if_some hd
    obtain ⟨a, vs, rfl, e1, r1⟩ := px
    obtain ⟨b, ws, rfl, e2, r2⟩ := py
    refine op_cat pins s σ' H _ _ v u Q I rx ry ⟨a, b, vs, ws, rfl, rfl, e1, e2, ?_, fin_lst (M := ⟨X.K, M.cls, M.xr, M.xl⟩) ok q (r1.append r2)⟩
    rw [← r1.length, ← r2.length]; exact of_decide_eq_true hz
  · obtain ⟨hz, rfl⟩ := if_some hd
    obtain ⟨a, vs, rfl, e1, r1⟩ := px
    obtain ⟨b, ws, rfl, e2, r2⟩ := py
    refine op_catA pins s σ' H _ _ v u Q I rx ry ⟨a, b, vs, ws, rfl, rfl, e1, e2, ?_, fun z => ?_, fun z1 z2 => ?_, fun z1 z2 => fin_tup (M := ⟨X.K, M.cls, M.xr, M.xl⟩) ok q (r1.append r2)⟩
    · rw [← r1.length, ← r2.length]; exact of_decide_eq_true hz
    · subst z
      have l := r1.length
      have := List.length_eq_zero_iff.mp l; subst this
      exact q _ _ (Post.val ok Step.refl ⟨b, ws, rfl, e2, r2⟩)
    · subst z2
      have l := r2.length
      have := List.length_eq_zero_iff.mp l; subst this
      exact q _ _ (Post.val ok Step.refl ⟨a, vs, rfl, e1, by rw [List.append_nil]; exact r1⟩)

theorem od_sub (hK : X.K = M.K) : OpR X (binaryOp .Sub) (OpD M Fx (gBin .sub)) := by
  intro pins s σ' H x y v u Q I rx ry ⟨B, σ, env, dx, dy, sl, ok, px, py, hg, q⟩
  rw [← hK] at ok px py q
  obtain ⟨d, hd, rfl⟩ := Option.map_eq_some_iff.mp hg
  unfold binD at hd
  split at hd
  all_goals try contradiction
  all_goals (rename_i e1; try cases e1)
  cases hd; cases px; cases py
  exact op_sub pins s σ' H _ _ v u Q I rx ry ⟨_, _, rfl, rfl, q _ _ (Post.val ok Step.refl rfl)⟩

theorem od_fdiv (hK : X.K = M.K) : OpR X (binaryOp .FloorDiv) (OpD M Fx (gBin .fdiv)) := by
  intro pins s σ' H x y v u Q I rx ry ⟨B, σ, env, dx, dy, sl, ok, px, py, hg, q⟩
  rw [← hK] at ok px py q
  obtain ⟨d, hd, rfl⟩ := Option.map_eq_some_iff.mp hg
  unfold binD at hd
  split at hd
  all_goals try contradiction
  all_goals (rename_i e1; try cases e1)
  obtain ⟨hz, rfl⟩ := if_some hd
  cases px; cases py
  exact op_fdivW pins s σ' H _ _ v u Q I rx ry ⟨_, _, rfl, rfl, divOk_c _ hz, q _ _ (Post.val ok Step.refl rfl)⟩

theorem od_mod (hK : X.K = M.K) : OpR X (binaryOp .Mod) (OpD M Fx (gBin .mod)) := by
  intro pins s σ' H x y v u Q I rx ry ⟨B, σ, env, dx, dy, sl, ok, px, py, hg, q⟩
  rw [← hK] at ok px py q
  obtain ⟨d, hd, rfl⟩ := Option.map_eq_some_iff.mp hg
  unfold binD at hd
  split at hd
  all_goals try contradiction
  all_goals (rename_i e1; try cases e1)
  obtain ⟨hz, rfl⟩ := if_some hd
  cases px; cases py
  exact op_mod pins s σ' H _ _ v u Q I rx ry ⟨_, _, rfl, rfl, of_decide_eq_true hz, q _ _ (Post.val ok Step.refl rfl)⟩

theorem od_pow (hK : X.K = M.K) : OpR X (binaryOp .Pow) (OpD M Fx (gBin .pow)) := by
  intro pins s σ' H x y v u Q I rx ry ⟨B, σ, env, dx, dy, sl, ok, px, py, hg, q⟩
  rw [← hK] at ok px py q
  obtain ⟨d, hd, rfl⟩ := Option.map_eq_some_iff.mp hg
  unfold binD at hd
  split at hd
  all_goals try contradiction
  all_goals (rename_i e1; try cases e1)
  obtain ⟨hz, rfl⟩ := if_some hd
  cases px; cases py
  exact op_pow pins s σ' H _ _ v u Q I rx ry ⟨_, _, rfl, rfl, powOk_c hz, q _ _ (Post.val ok Step.refl rfl)⟩

theorem repOk_c {k : Int} {n : Nat} (h : repOk k n = true) : -(2 ^ 63) ≤ k ∧ k < 2 ^ 63 ∧ n * k.toNat ≤ sizeLine := by
  unfold repOk at h
  simp only [Bool.and_eq_true, decide_eq_true_eq] at h
  exact ⟨h.1.1, h.1.2, h.2⟩
theorem repOkT_c {k : Int} {n : Nat} (h : repOkT k n = true) : 2 ≤ k ∧ k ≤ 1000 ∧ 1 ≤ n ∧ n ≤ 1000 := by
  unfold repOkT at h
  simp only [Bool.and_eq_true, decide_eq_true_eq] at h
  exact ⟨h.1.1.1, h.1.1.2, h.1.2, h.2⟩
theorem fold_rep (x : Array Nat) : ∀ (n : Nat) (acc : Array Nat), ((List.replicate n x).foldl (· ++ ·) acc) = (acc.toList ++ (List.replicate n x.toList).flatten).toArray
  | 0, acc => by simp
  | n + 1, acc => by
    rw [List.replicate_succ, List.foldl_cons, fold_rep x n]
    apply Array.ext'
    simp [List.replicate_succ]
theorem rep_len (k : Nat) (z : Str) : (repL k (cs z)).length = k * z.length := by simp [repL, cs, Str.length]
theorem od_mul (hK : X.K = M.K) : OpR X (binaryOp .Mult) (OpD M Fx (gBin .mul)) := by
  intro pins s σ' H x y v u Q I rx ry ⟨B, σ, env, dx, dy, sl, ok, px, py, hg, q⟩
  rw [← hK] at ok px py q
  obtain ⟨d, hd, rfl⟩ := Option.map_eq_some_iff.mp hg
  unfold binD at hd
  split at hd
  all_goals try contradiction
  all_goals (rename_i e1; try cases e1)
  · obtain ⟨hz, rfl⟩ := if_some hd
    cases px; cases py
    exact op_mulE pins s σ' H _ _ v u Q I rx ry ⟨_, _, rfl, rfl, mulOk_c hz, q _ _ (Post.val ok Step.refl rfl)⟩
  · obtain ⟨hz, rfl⟩ := if_some hd
    obtain ⟨a, vs, rfl, e1, r1⟩ := px
    cases py
    obtain ⟨h1, h2, h3⟩ := repOk_c hz
    exact op_rep pins s σ' H _ _ v u Q I rx ry ⟨a, _, vs, rfl, rfl, e1, h1, h2, by rw [← r1.length]; exact h3, fin_lst (M := ⟨X.K, M.cls, M.xr, M.xl⟩) ok q (r1.rep _)⟩
  · obtain ⟨hz, rfl⟩ := if_some hd
    obtain ⟨a, vs, rfl, e1, r1⟩ := px
    cases py
    rcases Bool.or_eq_true_iff.mp hz with hz | hz
    rotate_left
    · simp only [Bool.and_eq_true, Bool.or_eq_true, decide_eq_true_eq] at hz
      refine op_repS pins s σ' H _ _ v u Q I rx ry ⟨a, _, vs, rfl, rfl, e1, ?_, hz.1.2, hz.2, q _ _ (Post.val ok Step.refl ⟨a, vs, rfl, e1, ?_⟩)⟩
      · rcases hz.1.1 with h | h
        · exact .inr h
        · exact .inl (List.eq_nil_of_length_eq_zero (r1.length.symm.trans h))
      · rcases hz.1.1 with h | h
        · subst h
          have := r1.rep 1
          simpa using this
        · have e0 := List.eq_nil_of_length_eq_zero h
          have e2 := List.eq_nil_of_length_eq_zero (r1.length.symm.trans h)
          subst e0 e2
          unfold repL
          rw [List.flatten_replicate_nil]
          exact .nil
    obtain ⟨h1, h2, h3, h4⟩ := repOkT_c hz
    have l := r1.length
    exact op_repT pins s σ' H _ _ v u Q I rx ry ⟨a, _, vs, rfl, rfl, e1, fun z => by subst z; rw [l] at h3; simp at h3, h1, h2, by omega, fin_tup (M := ⟨X.K, M.cls, M.xr, M.xl⟩) ok q (r1.rep _)⟩
  · obtain ⟨hz, rfl⟩ := if_some hd
    cases px; cases py
    rename_i z k
    obtain ⟨h1, h2, h3, h4⟩ := repOkT_c hz
    obtain ⟨t, rfl⟩ := rx
    obtain ⟨t', rfl⟩ := ry
    have n1 : ¬ k < 1 := by omega
    have n2 : (k == 1 || z.length == 0) = false := by
      simp only [Bool.or_eq_false_iff, beq_eq_false_iff_ne]; omega
    have hlen : z.length * k.toNat ≤ 1000000 := Nat.le_trans (Nat.mul_le_mul h4 (show k.toNat ≤ 1000 by omega)) (by decide)
    refine PySem.P.mul_str (by simp only [Bool.or_eq_false_iff, decide_eq_false_iff_not]; omega) (fun _ _ => ?_) (fun _ _ => ?_) ?_
    · have : (2 ^ 63 - 1 : Int) / 1000 ≤ (2 ^ 63 - 1) / k := by
        have := Int.ediv_le_ediv (a := (2 ^ 63 - 1 : Int) / 1000 * k) (b := 2 ^ 63 - 1) (c := k) (by omega) (by have : (2 ^ 63 - 1 : Int) / 1000 * k ≤ (2 ^ 63 - 1 : Int) / 1000 * 1000 := Int.mul_le_mul_of_nonneg_left h2 (by decide); omega)
        rwa [Int.mul_ediv_cancel _ (by omega)] at this
      have h5 : (1000 : Int) ≤ (2 ^ 63 - 1) / 1000 := by decide
      omega
    · exact decide_eq_false (by rw [sizeLine_eq]; omega)
    · rw [if_neg n1, if_neg (by rw [n2]; simp)]
      have hs : (⟨(List.replicate k.toNat z.cps).foldl (· ++ ·) #[]⟩ : Str) = S (repL k.toNat (cs z)) := by
        rw [fold_rep]; rfl
      rw [hs]
      refine ⟨?_, ⟨.str (S (repL k.toNat (cs z))), H, I.tok _, ⟨_, rfl⟩, q _ _ (Post.val ok Step.refl rfl)⟩⟩
      (show (repL k.toNat (cs z)).toArray.size ≤ sizeLine; rw [List.size_toArray, sizeLine_eq, rep_len, Nat.mul_comm]; omega)

/-! comparisons -/
def vOf : D → V
  | .int i => V.int i
  | .none => .non
  | .bool b => .bl b
  | .str z => .str z
  | _ => .ref 0
theorem eqD_of {x y : D} {b : Bool} (h : eqD x y = some b) : (scal (vOf x) (vOf y) = true ∧ flat x = true ∧ flat y = true ∧
    b = decide ((vOf x) = (vOf y))) ∨
    (SeqAt.shaped x = true ∧ SeqAt.shaped y = true ∧ b = PyData.eqv x y) := by
  unfold eqD at h
  split at h
  · cases h; exact .inl ⟨rfl, rfl, rfl, (dec_int).symm⟩
  · cases h; exact .inl ⟨rfl, rfl, rfl, rfl⟩
  · cases h; exact .inl ⟨rfl, rfl, rfl, (dec_bl).symm⟩
  · cases h
    refine .inl ⟨rfl, rfl, rfl, ?_⟩
    rw [Bool.eq_iff_iff]; simp [vOf]
  · obtain ⟨h1, rfl⟩ := if_some h
    simp only [Bool.and_eq_true] at h1
    exact .inr ⟨h1.1, h1.2, rfl⟩
theorem flat_v {K : Frag} {Av : Addr → Prop} {H : Hp} {x : D} {v : V} (f : flat x = true) (h : Pk K Av H x v) : v = (vOf x) := by
  cases x with
  | list _ => cases f
  | tuple _ => cases f
  | dict _ => cases f
  | none => exact h
  | bool _ => exact h
  | int _ => exact h
  | str _ => exact h
theorem od_eq (hK : X.K = M.K) (hu : X.A.units + 65 < cLine) : OpR X (compareOp .Eq) (OpD M Fx (gCmp .eq)) := by
  intro pins s σ' H x y v u Q I rx ry ⟨B, σ, env, dx, dy, sl, ok, px, py, hg, q⟩
  rw [← hK] at ok px py q
  obtain ⟨b, hb, rfl⟩ := Option.map_eq_some_iff.mp hg
  have fin : Q (.bl b) H := q _ _ (Post.val ok Step.refl rfl)
  rcases eqD_of hb with ⟨h1, f1, f2, e⟩ | ⟨h1, h2, e⟩
  · rw [flat_v f1 px] at rx; rw [flat_v f2 py] at ry
    exact op_eq pins s σ' H _ _ v u Q I rx ry ⟨h1, by rw [← e]; exact fin⟩
  · exact op_eqD (by omega) pins s σ' H _ _ v u Q I rx ry ⟨dx, dy, px.dp h1, py.dp h2, h1, h2, by rw [← e]; exact fin⟩
theorem od_ne (hK : X.K = M.K) (hu : X.A.units + 65 < cLine) : OpR X (compareOp .NotEq) (OpD M Fx (gCmp .ne)) := by
  intro pins s σ' H x y v u Q I rx ry ⟨B, σ, env, dx, dy, sl, ok, px, py, hg, q⟩
  rw [← hK] at ok px py q
  obtain ⟨b', hb', rfl⟩ := Option.map_eq_some_iff.mp hg
  obtain ⟨b, hb, rfl⟩ := Option.map_eq_some_iff.mp hb'
  have fin : Q (.bl (!b)) H := q _ _ (Post.val ok Step.refl rfl)
  rcases eqD_of hb with ⟨h1, f1, f2, e⟩ | ⟨h1, h2, e⟩
  · rw [flat_v f1 px] at rx; rw [flat_v f2 py] at ry
    exact op_ne pins s σ' H _ _ v u Q I rx ry ⟨h1, by rw [← e]; exact fin⟩
  · exact op_neD (by omega) pins s σ' H _ _ v u Q I rx ry ⟨dx, dy, px.dp h1, py.dp h2, h1, h2, by rw [← e]; exact fin⟩

theorem od_lt (hK : X.K = M.K) : OpR X (compareOp .Lt) (OpD M Fx (gCmp .lt)) := by
  intro pins s σ' H x y v u Q I rx ry ⟨B, σ, env, dx, dy, sl, ok, px, py, hg, q⟩
  rw [← hK] at ok px py q
  obtain ⟨b, hb, rfl⟩ := Option.map_eq_some_iff.mp hg
  unfold cmpD at hb
  split at hb
  all_goals try contradiction
  all_goals (rename_i e1; try cases e1)
  cases hb; cases px; cases py
  exact op_lt pins s σ' H _ _ v u Q I rx ry ⟨_, _, rfl, rfl, q _ _ (Post.val ok Step.refl rfl)⟩
theorem od_le (hK : X.K = M.K) : OpR X (compareOp .LtE) (OpD M Fx (gCmp .le)) := by
  intro pins s σ' H x y v u Q I rx ry ⟨B, σ, env, dx, dy, sl, ok, px, py, hg, q⟩
  rw [← hK] at ok px py q
  obtain ⟨b, hb, rfl⟩ := Option.map_eq_some_iff.mp hg
  unfold cmpD at hb
  split at hb
  all_goals try contradiction
  all_goals (rename_i e1; try cases e1)
  cases hb; cases px; cases py
  exact op_le pins s σ' H _ _ v u Q I rx ry ⟨_, _, rfl, rfl, q _ _ (Post.val ok Step.refl rfl)⟩
theorem od_gt (hK : X.K = M.K) : OpR X (compareOp .Gt) (OpD M Fx (gCmp .gt)) := by
  intro pins s σ' H x y v u Q I rx ry ⟨B, σ, env, dx, dy, sl, ok, px, py, hg, q⟩
  rw [← hK] at ok px py q
  obtain ⟨b, hb, rfl⟩ := Option.map_eq_some_iff.mp hg
  unfold cmpD at hb
  split at hb
  all_goals try contradiction
  all_goals (rename_i e1; try cases e1)
  cases hb; cases px; cases py
  exact op_gt pins s σ' H _ _ v u Q I rx ry ⟨_, _, rfl, rfl, q _ _ (Post.val ok Step.refl rfl)⟩
theorem od_ge (hK : X.K = M.K) : OpR X (compareOp .GtE) (OpD M Fx (gCmp .ge)) := by
  intro pins s σ' H x y v u Q I rx ry ⟨B, σ, env, dx, dy, sl, ok, px, py, hg, q⟩
  rw [← hK] at ok px py q
  obtain ⟨b, hb, rfl⟩ := Option.map_eq_some_iff.mp hg
  unfold cmpD at hb
  split at hb
  all_goals try contradiction
  all_goals (rename_i e1; try cases e1)
  cases hb; cases px; cases py
  exact op_ge pins s σ' H _ _ v u Q I rx ry ⟨_, _, rfl, rfl, q _ _ (Post.val ok Step.refl rfl)⟩

theorem anyEq_any (x : D) : ∀ ys : List D, anyEq x ys = ys.any fun z => PyData.eqv z x
  | [] => rfl
  | y :: ys => by
    show (PyData.eqv y x || anyEq x ys) = _
    rw [anyEq_any x ys, List.any_cons]
theorem flat_eqv {x y : D} (f : flat x = true) (g : flat y = true) : eqV (vOf x) (vOf y) = PyData.eqv x y := by
  cases x <;> cases y <;> first | rfl | cases f | cases g
theorem flat_repL {K : Frag} {Av : Addr → Prop} {H : Hp} : ∀ {ys : List D} {vs : List V}, ys.all flat = true → RepL K Av H ys vs → vs = ys.map vOf
  | [], _, _, h => h
  | y :: ys, _, f, h => by
    obtain ⟨v, r, rfl, h1, h2⟩ := h
    rw [List.all_cons, Bool.and_eq_true] at f
    rw [flat_repL f.2 h2, List.map_cons, flat_v f.1 h1.pk]
theorem flatV_vOf {x : D} (f : flat x = true) : flatV (vOf x) = true := by
  cases x <;> first | rfl | cases f
theorem flat_all {ys : List D} (f : ys.all flat = true) : (ys.map vOf).all flatV = true := by
  rw [List.all_map]
  rw [List.all_eq_true] at f ⊢
  exact fun y hy => flatV_vOf (f y hy)
theorem inV_eq {x : D} (f : flat x = true) : ∀ {ys : List D}, ys.all flat = true → inV (vOf x) (ys.map vOf) = anyEq x ys
  | [], _ => rfl
  | y :: ys, g => by
    rw [List.all_cons, Bool.and_eq_true] at g
    have ih := inV_eq f g.2
    unfold inV at ih ⊢
    rw [List.map_cons, List.any_cons, ih, flat_eqv g.1 f]
    rfl
theorem inD_str {x y : Str} {b : Bool} (h : inD (.str x) (.str y) = some b) : ∃ c, x = ⟨#[c]⟩ ∧ b = decide (c ∈ cs y) := by
  have h : (match cs x with
    | [c] => some (decide (c ∈ cs y))
    | _ => none) = some b := h
  cases e : cs x with
  | nil => rw [e] at h; cases h
  | cons c r =>
    cases r with
    | cons _ _ => rw [e] at h; cases h
    | nil =>
      rw [e] at h; cases h
      refine ⟨c, ?_, rfl⟩
      obtain ⟨a⟩ := x
      have e : a.toList = [c] := e
      have : a = #[c] := by apply Array.ext'; rw [e]
      rw [this]
theorem od_in (hK : X.K = M.K) (hu : X.A.units + 65 < cLine) : OpR X (compareOp .In) (OpD M Fx (gCmp .isin)) := by
  intro pins s σ' H x y v u Q I rx ry ⟨B, σ, env, dx, dy, sl, ok, px, py, hg, q⟩
  rw [← hK] at ok px py q
  obtain ⟨b, hb, rfl⟩ := Option.map_eq_some_iff.mp hg
  have fin : Q (.bl b) H := q _ _ (Post.val ok Step.refl rfl)
  have hb : inD dx dy = some b := hb
  unfold inD at hb
  split at hb
  · obtain ⟨h1, rfl⟩ := if_some hb
    simp only [Bool.and_eq_true] at h1
    exact op_inD hu pins s σ' H _ _ v u Q I rx ry ⟨dx, _, px.dp h1.1, py.dp h1.2, h1.1, h1.2, by rw [← anyEq_any]; exact fin⟩
  · obtain ⟨h1, rfl⟩ := if_some hb
    simp only [Bool.and_eq_true] at h1
    obtain ⟨a, vs, rfl, e1, r1⟩ := py
    have ev := flat_repL h1.2 r1
    subst ev
    have ex : x = vOf dx := flat_v h1.1 px
    subst ex
    exact op_in_seq pins s σ' H _ _ v u Q I rx ry ⟨a, _, rfl, .inr e1, flatV_vOf h1.1, flat_all h1.2, by rw [inV_eq h1.1 h1.2]; exact fin⟩
  · obtain ⟨c, rfl, rfl⟩ := inD_str hb
    cases px; cases py
    exact op_in_sign pins s σ' H _ _ v u Q I rx ry ⟨c, _, rfl, rfl, fin⟩
  · cases hb
theorem od_notin (hK : X.K = M.K) (hu : X.A.units + 65 < cLine) : OpR X (compareOp .NotIn) (OpD M Fx (gCmp .notin)) := by
  intro pins s σ' H x y v u Q I rx ry ⟨B, σ, env, dx, dy, sl, ok, px, py, hg, q⟩
  rw [← hK] at ok px py q
  obtain ⟨b', hb', rfl⟩ := Option.map_eq_some_iff.mp hg
  obtain ⟨b, hb, rfl⟩ := Option.map_eq_some_iff.mp hb'
  have fin : Q (.bl (!b)) H := q _ _ (Post.val ok Step.refl rfl)
  unfold inD at hb
  split at hb
  · obtain ⟨h1, rfl⟩ := if_some hb
    simp only [Bool.and_eq_true] at h1
    exact op_notInD hu pins s σ' H _ _ v u Q I rx ry ⟨dx, _, px.dp h1.1, py.dp h1.2, h1.1, h1.2, by rw [← anyEq_any]; exact fin⟩
  · obtain ⟨h1, rfl⟩ := if_some hb
    simp only [Bool.and_eq_true] at h1
    obtain ⟨a, vs, rfl, e1, r1⟩ := py
    have ev := flat_repL h1.2 r1
    subst ev
    have ex : x = vOf dx := flat_v h1.1 px
    subst ex
    exact op_notIn_seq pins s σ' H _ _ v u Q I rx ry ⟨a, _, rfl, .inr e1, flatV_vOf h1.1, flat_all h1.2, by rw [if_pos rfl, inV_eq h1.1 h1.2]; exact fin⟩
  · obtain ⟨c, rfl, rfl⟩ := inD_str hb
    cases px; cases py
    exact op_notIn_sign pins s σ' H _ _ v u Q I rx ry ⟨c, _, rfl, rfl, fin⟩
  · cases hb
end
end Ev
end
section
set_option linter.all false
set_option maxRecDepth 100000
set_option maxHeartbeats 2000000
/-! soundness 3: expressions and tests -/
namespace Ev
open PySem L2

section
variable {M : Mdl} {W : WX} {Fx : Nat → Prop} {X : Cx} {C : Ctx} {pos : Pos}

theorem sd_con {e : Expr} {d : D} {v : V} (h : PE X e (tC v)) (hr : ∀ Av H, Rep M.K Av H d v) : PE X e (EvR M W Fx (cCon d C)) := by
  refine pe_weak h fun σ H Q ⟨B, env, ok, q⟩ => ?_
  exact q H v (Post.val ok Step.refl (hr _ _))

/-- a constant of the module -/
theorem sd_glb {e : Expr} {d : D} {v : V} (h : PE X e (tC v)) (hr : ∀ Av H, Rep M.K Av H d v) : PE X e (EvR M W Fx (cCon d C)) := sd_con h hr

theorem sd_var {i : Nat} {x : Str} (hN : X.N[i]? = some x) (hv : Vis X.env.scope x) (hd : (x == ("__debug__" : Str)) = false) (hcd : (x == ("__classdict__" : Str)) = false) : PE X (.Name x pos) (EvR M W Fx (cVar i C)) := by
  refine pe_weak (pe_var hN hv hd hcd) fun σ H Q ⟨B, env, ok, q⟩ => ?_
  unfold cVar at q
  split at q
  · rename_i d e
    obtain ⟨v, e1, r⟩ := ok.rep i _ e
    exact ⟨v, e1, q H v (Post.val ok Step.refl r)⟩
  · rename_i ds e
    obtain ⟨ok', st, a, vs, e1, e2, na, _, r, av, _⟩ := ok.less (Fx := Fx) e (.inr rfl)
    exact ⟨_, e1, q H _ (Post.val ok' st ⟨a, vs, rfl, na, e2, r.less av⟩)⟩
  · exact q.elim

theorem sd_mov {i : Nat} {x : Str} (hN : X.N[i]? = some x) (hv : Vis X.env.scope x) (hd : (x == ("__debug__" : Str)) = false) (hcd : (x == ("__classdict__" : Str)) = false) : PE X (.Name x pos) (EvR M W Fx (cMov i C)) := by
  refine pe_weak (pe_var hN hv hd hcd) fun σ H Q ⟨B, env, ok, q⟩ => ?_
  unfold cMov at q
  split at q
  · rename_i ds e
    obtain ⟨ok', st, a, vs, e1, e2, na, oa, r, av, ok2⟩ := ok.less (Fx := Fx) e (.inl rfl)
    refine ⟨_, e1, q H _ ⟨ok2.mono Bt_own, st, ⟨a, vs, rfl, e2, r.less fun b h => ?_⟩, fun b t => ?_, fun _ z => by cases z⟩⟩
    · rcases h with h | h
      · exact (Bt_own b h).elim .inl fun z => by subst z; exact .inr oa
      · exact (st.own b h).elim .inr fun z => by
          obtain ⟨_, z'⟩ := ok'.ownAt h
          rw [z] at z'; cases z'
    · obtain ⟨_, z⟩ := t
      cases z
      exact ⟨ok.bo a oa, .inl oa⟩
  · rename_i d e
    obtain ⟨v, e1, r⟩ := ok.rep i _ e
    exact ⟨v, e1, q H v (Post.val ok Step.refl r)⟩
  · exact q.elim

/-- the value of an expression, then the rest -/
theorem EvR.val {m : Env → R Slot} {α : Type} {f : D → Env → R α} {Qo : α → Env → Prop} {σ : St} {H : Hp} {B : Addr → Prop} {env : Env} {Q : VK} (ok : EnvOk M.K B H σ env)
    (h : RRun ((val (m env)).bind f) Qo (XQ M W B Fx σ env H))
    (k : ∀ d env' H' v, EnvOk M.K B H' σ env' → Step Fx σ env H σ env' H' → Rep M.K (Avd B σ env') H' d v → RRun (f d env') Qo (XQ M W B Fx σ env' H') → Q v H') : EvR M W Fx m σ H Q := by
  unfold Ev.val at h
  rw [RRun.bind, RRun.bind] at h
  refine EvR.then ok h fun s env' H' v q p => ?_
  rw [RRun.opt] at q
  obtain ⟨d, e, q⟩ := q
  exact k d env' H' v p.ok' p.st (p.dat e) (xq_step p.st q)

theorem sd_cVal {e : Expr} {m : Ex} (he : PE X e (EvR M W Fx (m C))) : PE X e (EvR M W Fx (cVal m C)) := by
  refine pe_weak he fun σ H Q ⟨B, env, ok, h⟩ => ?_
  exact EvR.val ok h fun d e1 H1 v o1 s1 r1 q => q H1 v (Post.val o1 s1 r1)
theorem c1_read {ma : Ex} {g : D → Option Slot} : ∀ σ H Q, EvR M W Fx (c1 g ma C) σ H Q → tUn (UnD M Fx g) (EvR M W Fx (ma C)) σ H Q := fun σ H Q ⟨B, env, ok, h⟩ => by
  refine EvR.val ok h fun d e1 H1 x ok1 st1 r1 q => ?_
  obtain ⟨s, hs, q⟩ := RRun.opt.mp q
  exact ⟨B, σ, e1, d, s, ok1, r1.pk, hs, fun H' v p => q H' v (p.more st1)⟩
theorem sd_c1 {a e : Expr} {ma : Ex} {g : D → Option Slot} (ha : PE X a (EvR M W Fx (ma C))) (he : PE X a (EvR M W Fx (ma C)) → PE X e (tUn (UnD M Fx g) (EvR M W Fx (ma C)))) : PE X e (EvR M W Fx (c1 g ma C)) :=
  pe_weak (he ha) c1_read
theorem c2_read {ma mb : Ex} {g : D → D → Option Slot} : ∀ σ H Q, EvR M W Fx (c2 g ma mb C) σ H Q → tOp (OpD M Fx g) (EvR M W Fx (ma C)) (EvR M W Fx (mb C)) σ H Q := fun σ H Q ⟨B, env, ok, h⟩ => by
  refine EvR.val ok h fun d e1 H1 x ok1 st1 r1 q => ?_
  refine EvR.val ok1 q fun d2 e2 H2 y ok2 st2 r2 q => ?_
  obtain ⟨s, hs, q⟩ := RRun.opt.mp q
  exact ⟨B, σ, e2, d, d2, s, ok2, (r1.step ok1 st2).pk, r2.pk, hs, fun H' v p => q H' v (p.more (st1.trans st2))⟩
theorem sd_c2 {a b e : Expr} {ma mb : Ex} {g : D → D → Option Slot} (ha : PE X a (EvR M W Fx (ma C))) (hb : PE X b (EvR M W Fx (mb C)))
    (he : PE X a (EvR M W Fx (ma C)) → PE X b (EvR M W Fx (mb C)) → PE X e (tOp (OpD M Fx g) (EvR M W Fx (ma C)) (EvR M W Fx (mb C)))) : PE X e (EvR M W Fx (c2 g ma mb C)) := pe_weak (he ha hb) c2_read

/-- a name's value as it stands -/
theorem datV_pk {σ : St} {H : Hp} {B : Addr → Prop} {env : Env} {i : Nat} {d : D} (ok : EnvOk M.K B H σ env) (h : datV env i = some d) : ∃ v, σ[i]? = some (some v) ∧ Pk M.K (Avd B σ env) H d v := by
  unfold datV at h
  obtain ⟨s, e, h⟩ := Option.bind_eq_some_iff.mp h
  obtain ⟨v, e1, r⟩ := ok.rep i s e
  exact ⟨v, e1, r.pk h⟩
theorem sd_c1V {i : Nat} {x : Str} {e : Expr} {g : D → Option Slot} (he : PE X e (tUn (UnD M Fx g) (tVar i))) : PE X e (EvR M W Fx (c1V g i C)) := by
  refine pe_weak he fun σ H Q ⟨B, env, ok, h⟩ => ?_
  obtain ⟨s, hs, q⟩ := RRun.opt.mp h
  obtain ⟨d, hd, hs⟩ := Option.bind_eq_some_iff.mp hs
  obtain ⟨v, e1, r⟩ := datV_pk ok hd
  exact ⟨v, e1, B, σ, env, d, s, ok, r, hs, q⟩
theorem sd_c2V {i : Nat} {b e : Expr} {mb : Ex} {g : D → D → Option Slot} (hb : PE X b (EvR M W Fx (mb C))) (he : PE X b (EvR M W Fx (mb C)) → PE X e (tOp (OpD M Fx g) (tVar i) (EvR M W Fx (mb C)))) :
    PE X e (EvR M W Fx (c2V g i mb C)) := by
  refine pe_weak (he hb) fun σ H Q ⟨B, env, ok, h⟩ => ?_
  rw [show c2V g i mb C env = (R.opt (getS env i) env).bind fun _ e => (Ev.val (mb C e)).bind fun y e => opn ((datV e i).bind (g · y)) e from rfl, RRun.bind, RRun.opt] at h
  obtain ⟨s0, e0, h⟩ := h
  obtain ⟨v, hv, _⟩ := ok.rep i s0 e0
  refine ⟨v, hv, ?_⟩
  refine EvR.val ok h fun d2 e2 H2 y ok2 st2 r2 q => ?_
  obtain ⟨s, hs, q⟩ := RRun.opt.mp q
  obtain ⟨d, hd, hs⟩ := Option.bind_eq_some_iff.mp hs
  obtain ⟨v', e1, r⟩ := datV_pk ok2 hd
  rw [hv] at e1; cases e1
  exact ⟨B, σ, e2, d, d2, s, ok2, r, r2.pk, hs, fun H' v p => q H' v (p.more st2)⟩
theorem c2W_read {i : Nat} {ma : Ex} {g : D → D → Option Slot} : ∀ σ H Q, EvR M W Fx (c2W g ma i C) σ H Q → tOp (OpD M Fx g) (EvR M W Fx (ma C)) (tVar i) σ H Q := fun σ H Q ⟨B, env, ok, h⟩ => by
  refine EvR.val ok h fun d e1 H1 x ok1 st1 r1 q => ?_
  obtain ⟨s, hs, q⟩ := RRun.opt.mp q
  obtain ⟨d2, hd, hs⟩ := Option.bind_eq_some_iff.mp hs
  obtain ⟨v', e2, r⟩ := datV_pk ok1 hd
  exact ⟨v', e2, B, σ, e1, d, d2, s, ok1, r1.pk, r, hs, fun H' v p => q H' v (p.more st1)⟩
theorem sd_c2W {i : Nat} {a e : Expr} {ma : Ex} {g : D → D → Option Slot} (ha : PE X a (EvR M W Fx (ma C))) (he : PE X a (EvR M W Fx (ma C)) → PE X e (tOp (OpD M Fx g) (EvR M W Fx (ma C)) (tVar i))) :
    PE X e (EvR M W Fx (c2W g ma i C)) := pe_weak (he ha) c2W_read

/-! tests -/
theorem TvR.val {m : Env → R Bool} {α : Type} {f : Bool → Env → R α} {Qo : α → Env → Prop} {σ : St} {H : Hp} {B : Addr → Prop} {env : Env} {Q : Bool → Hp → Prop} (ok : EnvOk M.K B H σ env)
    (h : RRun ((m env).bind f) Qo (XQ M W B Fx σ env H))
    (k : ∀ b env' H', EnvOk M.K B H' σ env' → Step Fx σ env H σ env' H' → RRun (f b env') Qo (XQ M W B Fx σ env' H') → Q b H') : TvR M W Fx m σ H Q := by
  rw [RRun.bind] at h
  exact TvR.then ok h fun b env' H' q o st => k b env' H' o st (xq_step st q)
theorem pk_tru {K : Frag} {Av : Addr → Prop} {H : Hp} {d : D} {x : V} {k : Bool} (h : truthD d = some k) (r : Pk K Av H d x) : TruV K x H k := by
  unfold truthD at h
  split at h
  · cases h; rw [show x = V.bl _ from r]; rfl
  · cases h; rw [show x = V.int _ from r]; rfl
  · obtain ⟨h1, rfl⟩ := if_some h
    rename_i z
    rw [show x = V.str _ from r]
    refine ⟨of_decide_eq_true h1, ?_⟩
    have : (cs z).length = z.length := by simp [cs, Str.length]
    rw [Bool.eq_iff_iff]
    cases e : cs z with
    | nil => rw [e] at this; simp at this; simp [← this]
    | cons a l => rw [e] at this; simp at this; simp; omega
  · cases h
    obtain ⟨a, vs, rfl, e, r⟩ := r
    refine .inl ⟨vs, SqL_of e, ?_⟩
    have := r.length
    rename_i ds
    cases ds <;> cases vs <;> simp at this <;> rfl
  · cases h
    obtain ⟨a, vs, rfl, e, r⟩ := r
    refine .inr (.inl ⟨vs, e, ?_⟩)
    have := r.length
    rename_i ds
    cases ds <;> cases vs <;> simp at this <;> rfl
  · cases h; rw [show x = V.non from r]; rfl
  · cases h

theorem sd_tVal {a : Expr} {ma : Ex} (hK : X.K = M.K) (ha : PE X a (EvR M W Fx (ma C))) (he : ∀ whole, isTrue a X.env whole = (do let v ← whole; standAt a.pos; holding [v] (truthy v))) : PT X a (TvR M W Fx (tVal ma C)) := by
  refine pt_weak (pt_truth ha he) fun σ H Q ⟨B, env, ok, h⟩ => ?_
  refine EvR.val ok h fun d e1 H1 x ok1 st1 r1 q => ?_
  obtain ⟨k, hk, q⟩ := RRun.opt.mp q
  exact ⟨k, by rw [hK]; exact pk_tru hk r1.pk, q H1 ok1 st1⟩
theorem sd_tNot {a : Expr} {ma : Tx} (ha : PT X a (TvR M W Fx (ma C))) : PT X (.UnaryOp .Not a pos) (TvR M W Fx (tNot ma C)) := by
  refine pt_weak (pt_not ha) fun σ H Q ⟨B, env, ok, h⟩ => ?_
  refine TvR.val ok h fun b e1 H1 ok1 st1 q => ?_
  exact q H1 ok1 st1
/-- the test's answer, then the rest as another test -/
theorem sd_tAnd {a : Expr} {t : Expr} {e : Expr} {ma mb : Tx} (ha : PT X a (TvR M W Fx (ma C))) (hb : PW X t (TvR M W Fx (mb C))) (he : PT X a (TvR M W Fx (ma C)) → PW X t (TvR M W Fx (mb C)) → PW X e (L2.tAnd (TvR M W Fx (ma C)) (TvR M W Fx (mb C)))) :
    PW X e (TvR M W Fx (tAnd ma mb C)) := by
  have h0 := he ha hb
  refine ⟨fun wh pins s σ H Q I q => h0.run wh pins s σ H Q I ?_⟩
  obtain ⟨B, env, ok, h⟩ := q
  refine TvR.val ok h fun b e1 H1 ok1 st1 q => ?_
  cases b with
  | true =>
    rw [if_pos rfl] at q ⊢
    exact ⟨B, e1, ok1, q.imp (fun k e2 f H2 o2 st2 => f H2 o2 (st1.trans st2)) fun _ _ _ q => q⟩
  | false =>
    rw [if_neg (by simp)] at q ⊢
    exact q H1 ok1 st1
theorem sd_tOr {a : Expr} {t : Expr} {e : Expr} {ma mb : Tx} (ha : PT X a (TvR M W Fx (ma C))) (hb : PW X t (TvR M W Fx (mb C))) (he : PT X a (TvR M W Fx (ma C)) → PW X t (TvR M W Fx (mb C)) → PW X e (L2.tOr (TvR M W Fx (ma C)) (TvR M W Fx (mb C)))) :
    PW X e (TvR M W Fx (tOr ma mb C)) := by
  have h0 := he ha hb
  refine ⟨fun wh pins s σ H Q I q => h0.run wh pins s σ H Q I ?_⟩
  obtain ⟨B, env, ok, h⟩ := q
  refine TvR.val ok h fun b e1 H1 ok1 st1 q => ?_
  cases b with
  | true =>
    rw [if_pos rfl] at q ⊢
    exact q H1 ok1 st1
  | false =>
    rw [if_neg (by simp)] at q ⊢
    exact ⟨B, e1, ok1, q.imp (fun k e2 f H2 o2 st2 => f H2 o2 (st1.trans st2)) fun _ _ _ q => q⟩
/-- a test by a comparison: its answer is a truth value -/
theorem tB_read {m : Ex} {t : TE} (hw : ∀ σ H Q, EvR M W Fx (m C) σ H Q → t σ H Q) (hb : ∀ env s e, m C env = .ok s e → ∃ b, s = .val (.bool b)) : ∀ σ H Q, TvR M W Fx (tVal m C) σ H Q → t σ H fun x H1 => ∃ c, x = .bl c ∧ Q c H1 := fun σ H Q ⟨B, env, ok, h⟩ => by
  refine hw σ H _ ⟨B, env, ok, ?_⟩
  have h : RRun ((Ev.val (m C env)).bind fun x e => R.opt (truthD x) e) _ _ := h
  cases hm : m C env with
  | no => rw [hm] at h; exact h
  | exc _ _ _ => rw [hm] at h; exact h
  | ok s e =>
    rw [hm] at h
    obtain ⟨b, rfl⟩ := hb env s e hm
    intro H' v p
    have q : ∀ H', EnvOk M.K B H' σ e → Step Fx σ env H σ e H' → Q b H' := h
    have ev : v = .bl b := p.dat rfl
    exact ⟨b, ev, q H' p.ok' p.st⟩
theorem val_ok {r : R Slot} {α : Type} {f : D → Env → R α} {a : α} {e : Env} (h : (Ev.val r).bind f = .ok a e) : ∃ d e1, f d e1 = .ok a e := by
  cases hv : Ev.val r with
  | no => rw [hv] at h; cases h
  | exc _ _ _ => rw [hv] at h; cases h
  | ok d e1 => rw [hv] at h; exact ⟨d, e1, h⟩
theorem opn_ok {o : Option Slot} {s : Slot} {e e' : Env} (h : opn o e = .ok s e') : o = some s := by
  cases o with
  | none => cases h
  | some x => cases h; rfl
theorem bl_bool {o : Option Bool} {s : Slot} (h : bl o = some s) : ∃ b, s = .val (.bool b) := by
  obtain ⟨b, _, rfl⟩ := Option.map_eq_some_iff.mp h
  exact ⟨b, rfl⟩
theorem cmp_bool {op : COp} {ma mb : Ex} : ∀ env s e, cCmp op ma mb C env = .ok s e → ∃ b, s = .val (.bool b) := fun env s e h => by
  obtain ⟨d, e1, h⟩ := val_ok (show (Ev.val (ma C env)).bind _ = .ok s e from h)
  obtain ⟨d2, e2, h⟩ := val_ok h
  exact bl_bool (opn_ok h)
theorem inV_bool {op : COp} {ma : Ex} {i : Nat} : ∀ env s e, cInV op ma i C env = .ok s e → ∃ b, s = .val (.bool b) := fun env s e h => by
  obtain ⟨d, e1, h⟩ := val_ok (show (Ev.val (ma C env)).bind _ = .ok s e from h)
  obtain ⟨d2, _, h⟩ := Option.bind_eq_some_iff.mp (opn_ok h)
  exact bl_bool h
theorem isN_bool {ng : Bool} {ma : Ex} : ∀ env s e, cIsN ng ma C env = .ok s e → ∃ b, s = .val (.bool b) := fun env s e h => by
  obtain ⟨d, e1, h⟩ := val_ok (show (Ev.val (ma C env)).bind _ = .ok s e from h)
  have := opn_ok h
  cases this
  exact ⟨_, rfl⟩
theorem chn_bool {o1 o2 : COp} {ma mb mc : Ex} : ∀ env s e, cChn o1 o2 ma mb mc C env = .ok s e → ∃ b, s = .val (.bool b) := fun env s e h => by
  obtain ⟨d, e1, h⟩ := val_ok (show (Ev.val (ma C env)).bind _ = .ok s e from h)
  obtain ⟨d2, e2, h⟩ := val_ok h
  cases hk : cmpD o1 d d2 with
  | none => rw [hk] at h; cases h
  | some k =>
    rw [hk] at h
    cases k with
    | false => cases h; exact ⟨_, rfl⟩
    | true =>
      obtain ⟨d3, e3, h⟩ := val_ok (show (Ev.val (mc C e2)).bind _ = .ok s e from h)
      exact bl_bool (opn_ok h)
end
end Ev
end
section
set_option linter.all false
set_option maxRecDepth 100000
set_option maxHeartbeats 2000000
/-! soundness 4: displays, arguments, calls -/
namespace Ev
open PySem L2

/-- the reading of some expressions in a row -/
def LsR (M : Mdl) (W : WX) (Fx : Nat → Prop) (r : Env → R (List D)) : TA := fun σ H Q => ∃ B env, EnvOk M.K B H σ env ∧
  RRun (r env) (fun ds env' => ∀ H' vs, EnvOk M.K B H' σ env' → Step Fx σ env H σ env' H' → RepL M.K (Avd B σ env') H' ds vs → Q vs H') (XQ M W B Fx σ env H)

section
variable {M : Mdl} {W : WX} {Fx : Nat → Prop} {X : Cx} {C : Ctx} {pos : Pos}
theorem pa_weak {es : List Expr} {t t' : TA} (h : PA X es t) (w : ∀ σ H Q, t' σ H Q → t σ H Q) : PA X es t' := ⟨fun pos pins s σ H Q I q => h.run pos pins s σ H Q I (w σ H Q q)⟩

theorem LsR.then {α : Type} {m : Env → R (List D)} {f : List D → Env → R α} {Qo : α → Env → Prop} {σ : St} {H : Hp} {B : Addr → Prop} {env : Env} {Q : List V → Hp → Prop} (ok : EnvOk M.K B H σ env)
    (h : RRun ((m env).bind f) Qo (XQ M W B Fx σ env H))
    (k : ∀ ds env' H' vs, EnvOk M.K B H' σ env' → Step Fx σ env H σ env' H' → RepL M.K (Avd B σ env') H' ds vs → RRun (f ds env') Qo (XQ M W B Fx σ env' H') → Q vs H') : LsR M W Fx m σ H Q := by
  rw [RRun.bind] at h
  exact ⟨B, env, ok, h.imp (fun ds e' q H' vs o st r => k ds e' H' vs o st r (xq_step st q)) fun _ _ _ q => q⟩

theorem sd_nil : PA X [] (LsR M W Fx (evItems C [])) := pa_weak pa_nil fun σ H Q ⟨B, env, ok, h⟩ => h H [] ok Step.refl .nil
theorem sd_one {e : Expr} {es : List Expr} {m : Ex} {ms : List Item} (hs : starEach (e :: es) X.env = (false, eval e X.env) :: starEach es X.env) (he : PE X e (EvR M W Fx (m C))) (hr : PA X es (LsR M W Fx (evItems C ms))) : PA X (e :: es) (LsR M W Fx (evItems C (.one m :: ms))) := by
  refine pa_weak (pa_cons he hr hs) fun σ H Q ⟨B, env, ok, h⟩ => ?_
  refine EvR.val ok h fun d e1 H1 x ok1 st1 r1 q => ?_
  refine LsR.then ok1 q fun ds e2 H2 vs ok2 st2 r2 q => ?_
  exact q H2 (x :: vs) ok2 (st1.trans st2) (.cons (r1.step ok1 st2) r2)
theorem sd_star {e : Expr} {es : List Expr} {m : Ex} {ms : List Item} (hK : X.K = M.K) (he : PE X e (EvR M W Fx (m C))) (hr : PA X es (LsR M W Fx (evItems C ms))) : PA X (.Starred e pos :: es) (LsR M W Fx (evItems C (.star m :: ms))) := by
  refine pa_weak (StX.pa_star he hr) fun σ H Q ⟨B, env, ok, h⟩ => ?_
  refine EvR.val ok h fun d e1 H1 x ok1 st1 r1 q => ?_
  rw [RRun.bind, RRun.opt] at q
  obtain ⟨xs, hx, q⟩ := q
  have key : ∃ p ws, x = V.ref p ∧ (SqT X.K H1 p ws ∨ SqL X.K H1 p ws) ∧ RepL M.K (Avd B σ e1) H1 xs ws := by
    unfold seqD at hx
    split at hx
    · cases hx
      obtain ⟨a, vs, rfl, _, e, r⟩ := r1
      exact ⟨a, vs, rfl, .inr (SqL_of e), r⟩
    · cases hx
      obtain ⟨a, vs, rfl, e, r⟩ := r1
      exact ⟨a, vs, rfl, .inl (by rw [hK]; exact e), r⟩
    · cases hx
  obtain ⟨p, ws, rfl, hw, rw'⟩ := key
  refine ⟨p, ws, rfl, hw, LsR.then ok1 q fun ds e2 H2 vs ok2 st2 r2 q => ?_⟩
  exact q H2 (ws ++ vs) ok2 (st1.trans st2) ((rw'.step ok1 st2).append r2)
theorem sd_starV {i : Nat} {x : Str} {p : Pos} {es : List Expr} {ms : List Item} (hK : X.K = M.K) (hv : PE X (.Name x p) (tVar i)) (hr : PA X es (LsR M W Fx (evItems C ms))) : PA X (.Starred (.Name x p) pos :: es) (LsR M W Fx (evItems C (.starV i :: ms))) := by
  refine pa_weak (StX.pa_star hv hr) fun σ H Q ⟨B, env, ok, h⟩ => ?_
  rw [show evItems C (.starV i :: ms) env = (R.opt ((datV env i).bind seqD) env).bind fun xs e => (evItems C ms e).bind fun ds e => .ok (xs ++ ds) e from rfl, RRun.bind, RRun.opt] at h
  obtain ⟨xs, hx, q⟩ := h
  obtain ⟨d, hd, hx⟩ := Option.bind_eq_some_iff.mp hx
  obtain ⟨v, e1, r1⟩ := datV_pk ok hd
  have key : ∃ p ws, v = V.ref p ∧ (SqT X.K H p ws ∨ SqL X.K H p ws) ∧ RepL M.K (Avd B σ env) H xs ws := by
    unfold seqD at hx
    split at hx
    · cases hx
      obtain ⟨a, vs, rfl, e, r⟩ := r1
      exact ⟨a, vs, rfl, .inr (SqL_of e), r⟩
    · cases hx
      obtain ⟨a, vs, rfl, e, r⟩ := r1
      exact ⟨a, vs, rfl, .inl (by rw [hK]; exact e), r⟩
    · cases hx
  obtain ⟨p, ws, rfl, hw, rw'⟩ := key
  refine ⟨_, e1, p, ws, rfl, hw, LsR.then ok q fun ds e2 H2 vs ok2 st2 r2 q => ?_⟩
  exact q H2 (ws ++ vs) ok2 st2 ((rw'.step ok st2).append r2)

theorem sd_lst {es : List Expr} {ms : List Item} (h : PA X es (LsR M W Fx (evItems C ms))) : PE X (.List es pos) (EvR M W Fx (cLst ms C)) := by
  refine pe_weak (pe_lst h) fun σ H Q ⟨B, env, ok, h⟩ => ?_
  refine LsR.then ok h fun ds e1 H1 vs ok1 st1 r1 q => ?_
  by_cases hz : ds.length ≤ sizeLine
  · rw [if_pos (decide_eq_true hz)] at q
    exact ⟨by rw [← r1.length]; exact hz, fun p hp => q _ _ ((Post.lst ok1 Step.refl hp r1).more st1)⟩
  · rw [if_neg (by simpa using hz)] at q
    exact q.elim
theorem sd_tup {k : Nat} {es : List Expr} {ms : List Item} (h : PA X es (LsR M W Fx (evItems C ms))) : PE X (.Tuple es k pos) (EvR M W Fx (cTup ms C)) := by
  refine pe_weak (pe_tup h) fun σ H Q ⟨B, env, ok, h⟩ => ?_
  refine LsR.then ok h fun ds e1 H1 vs ok1 st1 r1 q => ?_
  by_cases hz : ds.length ≤ sizeLine
  · rw [if_pos (decide_eq_true hz)] at q
    exact ⟨by rw [← r1.length]; exact hz, fun p hp => q _ _ ((Post.tup ok1 Step.refl hp r1).more st1)⟩
  · rw [if_neg (by simpa using hz)] at q
    exact q.elim

/-! ### arguments -/
/-- the places of the values that no name owns yet -/
def TmL : List Arg → List Slot → List V → Addr → Prop
  | .ref _ :: as, ss, _ :: vs, a => TmL as ss vs a
  | .val _ :: as, s :: ss, v :: vs, a => Tm s v a ∨ TmL as ss vs a
  | _, _, _, _ => False
def TmD : List Arg → List Slot → List V → Prop
  | .ref _ :: as, ss, _ :: vs => TmD as ss vs
  | .val _ :: as, s :: ss, v :: vs => (∀ a, Tm s v a → ¬ TmL as ss vs a) ∧ TmD as ss vs
  | _, _, _ => True
def ARep (K : Frag) (Av : Addr → Prop) (H : Hp) (σ : St) : List Arg → List Slot → List V → Prop
  | [], ss, vs => ss = [] ∧ vs = []
  | .ref i :: as, ss, vs => ∃ v r, vs = v :: r ∧ σ[i]? = some (some v) ∧ ARep K Av H σ as ss r
  | .val _ :: as, ss, vs => ∃ s t v r, ss = s :: t ∧ vs = v :: r ∧ SRep K Av H s v ∧ (∀ ds, s ≠ .rd ds) ∧ ARep K Av H σ as t r
structure APost (K : Frag) (B : Addr → Prop) (Fx : Nat → Prop) (σ : St) (env : Env) (H : Hp) (env' : Env) (H' : Hp) (as : List Arg) (ss : List Slot) (vs : List V) : Prop where
  ok : EnvOk K (fun a => B a ∨ TmL as ss vs a) H' σ env'
  st : Step Fx σ env H σ env' H'
  rep : ARep K (Avd (fun a => B a ∨ TmL as ss vs a) σ env') H' σ as ss vs
  new : ∀ a, TmL as ss vs a → ¬ B a ∧ (Own σ env a ∨ H a = none)
  dis : TmD as ss vs
/-- the reading of the arguments of a call -/
def AsR (M : Mdl) (W : WX) (Fx : Nat → Prop) (as : List Arg) (r : Env → R (List Slot)) : TA := fun σ H Q => ∃ B env, EnvOk M.K B H σ env ∧
  RRun (r env) (fun ss env' => ∀ H' vs, APost M.K B Fx σ env H env' H' as ss vs → Q vs H') (XQ M W B Fx σ env H)

theorem SRep.step {K : Frag} {B : Addr → Prop} {σ : St} {env env1 : Env} {H H1 : Hp} {s : Slot} {v : V} (ok : EnvOk K (Bt B s v) H σ env) (st : Step Fx σ env H σ env1 H1) (h : SRep K (Avd (Bt B s v) σ env) H s v) (hr : ∀ ds, s ≠ .rd ds) :
    SRep K (Avd (Bt B s v) σ env1) H1 s v := by
  cases s with
  | val d => exact Rep.step ok st h
  | rd ds => exact absurd rfl (hr ds)
  | own ds =>
    obtain ⟨a, vs, rfl, e2, e3⟩ := h
    refine ⟨a, vs, rfl, st.keep a _ e2 fun o => ok.bo a o (.inr ⟨⟨ds, rfl⟩, rfl⟩), e3.step ok st⟩

theorem as_nil : PA X [] (AsR M W Fx [] (evA C [])) := pa_weak pa_nil fun σ H Q ⟨B, env, ok, h⟩ =>
  h H [] ⟨ok.mono fun a q => q.elim id fun z => z.elim, Step.refl, ⟨rfl, rfl⟩, fun _ z => z.elim, trivial⟩
theorem as_ref {i : Nat} {e : Expr} {es : List Expr} {as : List Arg} (hs : starEach (e :: es) X.env = (false, eval e X.env) :: starEach es X.env) (he : PE X e (tVar i)) (hr : PA X es (AsR M W Fx as (evA C as))) : PA X (e :: es) (AsR M W Fx (.ref i :: as) (evA C (.ref i :: as))) := by
  refine pa_weak (pa_cons he hr hs) fun σ H Q ⟨B, env, ok, h⟩ => ?_
  have h : RRun ((R.opt (getS env i) env).bind fun _ e => evA C as e) _ _ := h
  rw [RRun.bind, RRun.opt] at h
  obtain ⟨s, hs, h⟩ := h
  obtain ⟨v, e1, _⟩ := ok.rep i s hs
  refine ⟨v, e1, B, env, ok, RRun.imp h (fun ss e' q H' vs p => ?_) fun _ _ _ q => q⟩
  exact q H' (v :: vs) ⟨p.ok, p.st, ⟨v, vs, rfl, e1, p.rep⟩, p.new, p.dis⟩
theorem tmL_mem {as : List Arg} {ss : List Slot} {vs : List V} {σ : St} {K : Frag} {Av : Addr → Prop} {H : Hp} : ∀ {as : List Arg} {ss : List Slot} {vs : List V} {a : Addr}, ARep K Av H σ as ss vs → TmL as ss vs a → ∃ ws, H a = some (.lst ws)
  | [], _, _, _, h, t => by obtain ⟨rfl, rfl⟩ := h; exact t.elim
  | .ref i :: as, _, _, _, h, t => by
    obtain ⟨v, r, rfl, _, h⟩ := h
    exact tmL_mem (as := as) (ss := []) (vs := []) h t
  | .val _ :: as, _, _, _, h, t => by
    obtain ⟨s, ss, v, vs, rfl, rfl, h1, _, h2⟩ := h
    rcases t with t | t
    · obtain ⟨⟨ds, rfl⟩, rfl⟩ := t
      obtain ⟨b, ws, e, e2, _⟩ := h1
      cases e
      exact ⟨ws, e2⟩
    · exact tmL_mem (as := as) (ss := []) (vs := []) h2 t

theorem stab_more {K : Frag} {B T : Addr → Prop} {σ : St} {env env1 : Env} {H H1 : Hp} (ok : EnvOk K B H σ env) (st : Step Fx σ env H σ env1 H1) (hT : ∀ a, T a → Own σ env a ∨ H a = none) :
    ∀ a vs, H a = some (.lst vs) → ¬ Avd B σ env a → H1 a = some (.lst vs) ∧ ¬ Avd (fun a => B a ∨ T a) σ env1 a := fun a vs e n => by
  obtain ⟨h1, h2⟩ := ok.lstS st e n
  refine ⟨h1, fun q => ?_⟩
  rcases q with (q | q) | q
  · exact n (.inl q)
  · exact (hT a q).elim (fun o => n (.inr o)) fun z => by rw [e] at z; cases z
  · exact h2 (.inr q)
theorem SRep.more {K : Frag} {B T : Addr → Prop} {σ : St} {env env1 : Env} {H H1 : Hp} {s : Slot} {v : V} (ok : EnvOk K (Bt B s v) H σ env) (st : Step Fx σ env H σ env1 H1) (hT : ∀ a, T a → Own σ env a ∨ H a = none)
    (h : SRep K (Avd (Bt B s v) σ env) H s v) (hr : ∀ ds, s ≠ .rd ds) : SRep K (Avd (fun a => Bt B s v a ∨ T a) σ env1) H1 s v := by
  cases s with
  | val d => exact Rep.stab (stab_more ok st hT) (ok.nol st) d v h
  | rd ds => exact absurd rfl (hr ds)
  | own ds =>
    obtain ⟨a, vs, rfl, e2, e3⟩ := h
    exact ⟨a, vs, rfl, st.keep a _ e2 fun o => ok.bo a o (.inr ⟨⟨ds, rfl⟩, rfl⟩), RepL.stab (stab_more ok st hT) (ok.nol st) ds vs e3⟩
theorem SRep.less {K : Frag} {Av Av' : Addr → Prop} {H : Hp} {s : Slot} {v : V} (h : SRep K Av H s v) (w : ∀ a, Av' a → Av a) : SRep K Av' H s v := by
  cases s with
  | val d => exact Rep.less h w
  | own ds => obtain ⟨a, vs, e1, e2, e3⟩ := h; exact ⟨a, vs, e1, e2, e3.less w⟩
  | rd ds => obtain ⟨a, vs, e1, e2, e3⟩ := h; exact ⟨a, vs, e1, e2, e3.less w⟩
theorem ARep.less {K : Frag} {Av Av' : Addr → Prop} {H : Hp} {σ : St} (w : ∀ a, Av' a → Av a) : ∀ {as : List Arg} {ss : List Slot} {vs : List V}, ARep K Av H σ as ss vs → ARep K Av' H σ as ss vs
  | [], _, _, h => h
  | .ref i :: as, _, _, h => by
    obtain ⟨v, r, rfl, e, h⟩ := h
    exact ⟨v, r, rfl, e, ARep.less w (as := as) (ss := _) (vs := r) h⟩
  | .val _ :: as, _, _, h => by
    obtain ⟨s, ss, v, vs, rfl, rfl, h1, h3, h2⟩ := h
    exact ⟨s, ss, v, vs, rfl, rfl, h1.less w, h3, ARep.less w (as := as) (ss := ss) (vs := vs) h2⟩
theorem tm_old {s : Slot} {v : V} {B : Addr → Prop} {σ : St} {env : Env} {H : Hp} {K : Frag} {env' : Env} {H' : Hp} (p : Post K B Fx σ env H env' H' s v) {a : Addr} (t : Tm s v a) : ∃ ws, H' a = some (.lst ws) := by
  obtain ⟨⟨ds, rfl⟩, rfl⟩ := t
  obtain ⟨b, ws, e, e2, _⟩ := p.rep
  cases e
  exact ⟨ws, e2⟩
theorem as_val {e : Expr} {es : List Expr} {m : Ex} {as : List Arg} (hs : starEach (e :: es) X.env = (false, eval e X.env) :: starEach es X.env) (he : PE X e (EvR M W Fx (m C))) (hr : PA X es (AsR M W Fx as (evA C as))) :
    PA X (e :: es) (AsR M W Fx (.val m :: as) (evA C (.val m :: as))) := by
  refine pa_weak (pa_cons he hr hs) fun σ H Q ⟨B, env, ok, h⟩ => ?_
  have h : RRun ((m C env).bind fun s e => (evA C as e).bind fun ss e => .ok (s :: ss) e) _ _ := h
  rw [RRun.bind] at h
  refine EvR.then ok h fun s e1 H1 v q p => ?_
  rw [RRun.bind] at q
  refine ⟨Bt B s v, e1, p.ok, RRun.imp q (fun ss e2 q H2 vs p2 => ?_) fun c ds e' x H' dx p2 => x H' dx ⟨p2.ok.mono fun _ b => .inl b, p.st.trans p2.st, ?_⟩⟩
  · refine q H2 (v :: vs) ⟨p2.ok.mono fun a t => ?_, p.st.trans p2.st, ⟨s, ss, v, vs, rfl, rfl, ?_, p.nrd, ?_⟩, fun a t => ?_, fun a t t2 => ?_, p2.dis⟩
    · rcases t with t | t | t
      · exact .inl (.inl t)
      · exact .inl (.inr t)
      · exact .inr t
    · refine (SRep.more (T := TmL as ss vs) p.ok p2.st (fun a t => (p2.new a t).2) p.rep p.nrd).less fun a q => ?_
      rcases q with (q | q | q) | q
      · exact .inl (.inl (.inl q))
      · exact .inl (.inl (.inr q))
      · exact .inl (.inr q)
      · exact .inr q
    · refine p2.rep.less fun a q => ?_
      rcases q with (q | q | q) | q
      · exact .inl (.inl (.inl q))
      · exact .inl (.inl (.inr q))
      · exact .inl (.inr q)
      · exact .inr q
    · rcases t with t | t
      · exact p.new a t
      · obtain ⟨n1, n2⟩ := p2.new a t
        exact ⟨fun b => n1 (.inl b), n2.elim (fun o => p.st.own a o) fun z => p.st.back z⟩
    · exact (p2.new a t2).1 (.inr t)
  · exact M.xl _ _ _ _ _ _ (avd_less fun _ b => .inl b) p2.x
end
end Ev
end
section
set_option linter.all false
set_option maxRecDepth 100000
set_option maxHeartbeats 2000000
/-! soundness 5: a call's frame -/
namespace Ev
open PySem L2

inductive AZ (K : Frag) (Av : Addr → Prop) (H : Hp) (σ : St) (env : Env) : List Arg → List Slot → List Slot → List V → Prop
  | nil : AZ K Av H σ env [] [] [] []
  | ref {i : Nat} {s : Slot} {v : V} {as : List Arg} {ss us : List Slot} {vs : List V} : getS env i = some s → σ[i]? = some (some v) → SRep K Av H s v → AZ K Av H σ env as ss us vs → AZ K Av H σ env (.ref i :: as) ss (s :: us) (v :: vs)
  | val {m : Ex} {s : Slot} {v : V} {as : List Arg} {ss us : List Slot} {vs : List V} : SRep K Av H s v → AZ K Av H σ env as ss us vs → AZ K Av H σ env (.val m :: as) (s :: ss) (s :: us) (v :: vs)

section
variable {K : Frag} {Av : Addr → Prop} {H : Hp} {σ : St} {env : Env}
theorem AZ.of {B : Addr → Prop} (ok : EnvOk K B H σ env) : ∀ {as : List Arg} {ss us : List Slot} {vs : List V}, ARep K (Avd B σ env) H σ as ss vs → atCall as ss env = some us → AZ K (Avd B σ env) H σ env as ss us vs
  | [], ss, us, vs, h, e => by
    obtain ⟨rfl, rfl⟩ := h
    cases e
    exact .nil
  | .ref i :: as, ss, us, vs, h, e => by
    obtain ⟨v, r, rfl, hv, h⟩ := h
    have e : ((getS env i).bind fun s => (atCall as ss env).map (s :: ·)) = some us := e
    obtain ⟨s, hs, e⟩ := Option.bind_eq_some_iff.mp e
    obtain ⟨us', hu, rfl⟩ := Option.map_eq_some_iff.mp e
    obtain ⟨v', e1, r1⟩ := ok.rep i s hs
    rw [hv] at e1; cases e1
    exact .ref hs hv r1 (AZ.of ok h hu)
  | .val m :: as, ss, us, vs, h, e => by
    obtain ⟨s, t, v, r, rfl, rfl, h1, _, h⟩ := h
    have e : (atCall as t env).map (s :: ·) = some us := e
    obtain ⟨us', hu, rfl⟩ := Option.map_eq_some_iff.mp e
    exact .val h1 (AZ.of ok h hu)
theorem AZ.lens {as : List Arg} {ss us : List Slot} {vs : List V} (z : AZ K Av H σ env as ss us vs) : us.length = as.length ∧ vs.length = as.length := by
  induction z with
  | nil => exact ⟨rfl, rfl⟩
  | ref _ _ _ _ ih => exact ⟨by simp [ih.1], by simp [ih.2]⟩
  | val _ _ ih => exact ⟨by simp [ih.1], by simp [ih.2]⟩
theorem AZ.at {as : List Arg} {ss us : List Slot} {vs : List V} (z : AZ K Av H σ env as ss us vs) : ∀ {k : Nat} {s : Slot}, us[k]? = some s → ∃ v, vs[k]? = some v ∧ SRep K Av H s v ∧
    ((∃ i, as[k]? = some (.ref i) ∧ getS env i = some s ∧ σ[i]? = some (some v)) ∨ ((∃ m, as[k]? = some (.val m)) ∧ ∀ a, Tm s v a → TmL as ss vs a)) := by
  induction z with
  | nil => intro k s e; simp at e
  | ref h1 h2 h3 _ ih =>
    intro k s e
    cases k with
    | zero => simp at e; subst e; exact ⟨_, rfl, h3, .inl ⟨_, rfl, h1, h2⟩⟩
    | succ k =>
      obtain ⟨v, e1, r, h⟩ := ih (k := k) (s := s) (by simpa using e)
      refine ⟨v, by simpa using e1, r, h.elim (fun ⟨i, q⟩ => .inl ⟨i, by simpa using q⟩) fun ⟨⟨m, q⟩, t⟩ => .inr ⟨⟨m, by simpa using q⟩, t⟩⟩
  | val h3 _ ih =>
    intro k s e
    cases k with
    | zero => simp at e; subst e; exact ⟨_, rfl, h3, .inr ⟨⟨_, rfl⟩, fun a t => .inl t⟩⟩
    | succ k =>
      obtain ⟨v, e1, r, h⟩ := ih (k := k) (s := s) (by simpa using e)
      refine ⟨v, by simpa using e1, r, h.elim (fun ⟨i, q⟩ => .inl ⟨i, by simpa using q⟩) fun ⟨⟨m, q⟩, t⟩ => .inr ⟨⟨m, by simpa using q⟩, fun a x => .inr (t a x)⟩⟩
theorem AZ.refAt {as : List Arg} {ss us : List Slot} {vs : List V} (z : AZ K Av H σ env as ss us vs) : ∀ {k i : Nat}, as[k]? = some (.ref i) → ∃ s v, us[k]? = some s ∧ vs[k]? = some v ∧ getS env i = some s ∧ σ[i]? = some (some v) := by
  induction z with
  | nil => intro k s e; simp at e
  | ref h1 h2 h3 _ ih =>
    intro k i e
    cases k with
    | zero => simp at e; subst e; exact ⟨_, _, rfl, rfl, h1, h2⟩
    | succ k =>
      obtain ⟨s, v, e1, e2, e3⟩ := ih (k := k) (i := i) (by simpa using e)
      exact ⟨s, v, by simpa using e1, by simpa using e2, e3⟩
  | val h3 _ ih =>
    intro k i e
    cases k with
    | zero => simp at e
    | succ k =>
      obtain ⟨s, v, e1, e2, e3⟩ := ih (k := k) (i := i) (by simpa using e)
      exact ⟨s, v, by simpa using e1, by simpa using e2, e3⟩
/-- two places of one address -/
theorem AZ.uniq {as : List Arg} {ss us : List Slot} {vs : List V} (z : AZ K Av H σ env as ss us vs) (hd : TmD as ss vs) (hn : (refsOf as).Nodup)
    (hu : ∀ i j ds es a, getS env i = some (.own ds) → getS env j = some (.own es) → σ[i]? = some (some (.ref a)) → σ[j]? = some (some (.ref a)) → i = j)
    (ho : ∀ a, Own σ env a → ¬ TmL as ss vs a) : ∀ (j k : Nat) (ds es : List D) (a : Addr), us[j]? = some (.own ds) → us[k]? = some (.own es) → vs[j]? = some (.ref a) → vs[k]? = some (.ref a) → j = k := by
  induction z with
  | nil => intro j k ds es a e; simp at e
  | @ref i s v as ss us vs h1 h2 h3 z ih =>
    intro j k ds es a e1 e2 e3 e4
    have ref0 : ∀ {k : Nat} {ds es : List D}, s = .own ds → v = .ref a → us[k]? = some (.own es) → vs[k]? = some (.ref a) → False := fun {k ds es} g1 g3 g2 g4 => by
      subst g1 g3
      obtain ⟨v, q1, _, q2⟩ := z.at g2
      rw [g4] at q1; cases q1
      rcases q2 with ⟨i', q3, q4, q5⟩ | ⟨_, q3⟩
      · have := hu _ _ _ _ _ h1 q4 h2 q5
        subst this
        rw [show refsOf (.ref i :: as) = i :: refsOf as from rfl, List.nodup_cons] at hn
        exact hn.1 (refs_mem q3)
      · exact ho a ⟨i, ds, h1, h2⟩ (q3 a ⟨⟨es, rfl⟩, rfl⟩)
    cases j with
    | zero =>
      cases k with
      | zero => rfl
      | succ k => simp at e1 e2 e3 e4; exact (ref0 e1 e3 e2 e4).elim
    | succ j =>
      cases k with
      | zero =>
        simp at e1 e2 e3 e4; exact (ref0 e2 e4 e1 e3).elim
      | succ k =>
        have := ih hd (List.nodup_cons.mp hn).2 ho j k ds es a (by simpa using e1) (by simpa using e2) (by simpa using e3) (by simpa using e4)
        omega
  | @val m s v as ss us vs h3 z ih =>
    intro j k ds es a e1 e2 e3 e4
    have val0 : ∀ {k : Nat} {ds es : List D}, s = .own ds → v = .ref a → us[k]? = some (.own es) → vs[k]? = some (.ref a) → False := fun {k ds es} g1 g3 g2 g4 => by
      subst g1 g3
      obtain ⟨v, q1, _, q2⟩ := z.at g2
      rw [g4] at q1; cases q1
      rcases q2 with ⟨i', q3, q4, q5⟩ | ⟨_, q3⟩
      · exact ho a ⟨i', es, q4, q5⟩ (.inl ⟨⟨ds, rfl⟩, rfl⟩)
      · exact hd.1 a ⟨⟨ds, rfl⟩, rfl⟩ (q3 a ⟨⟨es, rfl⟩, rfl⟩)
    cases j with
    | zero =>
      cases k with
      | zero => rfl
      | succ k => simp at e1 e2 e3 e4; exact (val0 e1 e3 e2 e4).elim
    | succ j =>
      cases k with
      | zero => simp at e1 e2 e3 e4; exact (val0 e2 e4 e1 e3).elim
      | succ k =>
        have := ih hd.2 hn (fun a o t => ho a o (.inr t)) j k ds es a (by simpa using e1) (by simpa using e2) (by simpa using e3) (by simpa using e4)
        omega
where refs_mem : ∀ {as : List Arg} {k i : Nat}, as[k]? = some (.ref i) → i ∈ refsOf as
  | .ref j :: as, 0, i, e => by simp at e; subst e; exact List.mem_cons_self ..
  | .ref j :: as, k + 1, i, e => List.mem_cons_of_mem _ (refs_mem (as := as) (k := k) (by simpa using e))
  | .val m :: as, 0, i, e => by simp at e
  | .val m :: as, k + 1, i, e => refs_mem (as := as) (k := k) (by simpa using e)
end

theorem back_out : ∀ {as : List Arg} {ps : List (Option Slot)} {e : Env} {j : Nat}, j ∉ refsOf as → getS (putBack as ps e) j = getS e j
  | [], _, _, _, _ => rfl
  | .ref i :: as, [], _, _, _ => rfl
  | .val _ :: as, [], _, _, _ => rfl
  | .ref i :: as, p :: ps, e, j, h => by
    show getS (putBack as ps (e.set i p)) j = _
    rw [back_out (as := as) fun q => h (List.mem_cons_of_mem _ q), getS_set, if_neg (fun q => h (by rw [q.1]; exact List.mem_cons_self ..))]
  | .val _ :: as, p :: ps, e, j, h => back_out (as := as) (ps := ps) (e := e) h
theorem back_len : ∀ {as : List Arg} {ps : List (Option Slot)} {e : Env}, (putBack as ps e).length = e.length
  | [], _, _ => rfl
  | .ref i :: as, [], _ => rfl
  | .val _ :: as, [], _ => rfl
  | .ref i :: as, p :: ps, e => by
    show (putBack as ps (e.set i p)).length = _
    rw [back_len (as := as), List.length_set]
  | .val _ :: as, p :: ps, e => back_len (as := as) (ps := ps) (e := e)
theorem back_in : ∀ {as : List Arg} {ps : List (Option Slot)} {e : Env} {k j : Nat}, (refsOf as).Nodup → as[k]? = some (.ref j) → k < ps.length → j < e.length → getS (putBack as ps e) j = getS ps k
  | [], _, _, k, _, _, h, _, _ => by simp at h
  | .ref i :: as, [], _, _, _, _, _, h, _ => by simp at h
  | .val _ :: as, [], _, _, _, _, _, h, _ => by simp at h
  | .ref i :: as, p :: ps, e, 0, j, hn, h, _, hl => by
    simp at h; subst h
    show getS (putBack as ps (e.set i p)) i = _
    rw [back_out (as := as) (List.nodup_cons.mp hn).1, getS_set, if_pos ⟨rfl, hl⟩]
    rfl
  | .ref i :: as, p :: ps, e, k + 1, j, hn, h, hk, hl => by
    show getS (putBack as ps (e.set i p)) j = _
    rw [back_in (as := as) (k := k) (List.nodup_cons.mp hn).2 (by simpa using h) (by simpa using hk) (by rw [List.length_set]; exact hl)]
    rfl
  | .val _ :: as, p :: ps, e, 0, j, hn, h, _, hl => by simp at h
  | .val _ :: as, p :: ps, e, k + 1, j, hn, h, hk, hl => by
    show getS (putBack as ps e) j = _
    rw [back_in (as := as) (k := k) hn (by simpa using h) (by simpa using hk) hl]
    rfl
theorem refs_ix : ∀ {as : List Arg} {j : Nat}, j ∈ refsOf as → ∃ k : Nat, as[k]? = some (.ref j)
  | .ref i :: as, j, h => by
    rcases List.mem_cons.mp h with rfl | h
    · exact ⟨0, rfl⟩
    · obtain ⟨k, e⟩ := refs_ix (as := as) h
      exact ⟨k + 1, by simpa using e⟩
  | .val _ :: as, j, h => by
    obtain ⟨k, e⟩ := refs_ix (as := as) h
    exact ⟨k + 1, by simpa using e⟩

/-- what a def's call does: from what is handed in to what is handed back -/
abbrev Top : Nat → Prop := fun _ => False
section
variable {K : Frag} {B : Addr → Prop} {Fx : Nat → Prop} {σ : St} {env env1 : Env} {H H1 H' : Hp} {as : List Arg} {ss us : List Slot} {vs : List V}
theorem getS_map {us : List Slot} {k : Nat} : getS (us.map some) k = us[k]? := by
  unfold getS
  rw [List.getElem?_map]
  cases us[k]? <;> rfl
theorem get_map {vs : List V} {k : Nat} {v : V} : (vs.map some)[k]? = some (some v) ↔ vs[k]? = some v := by
  rw [List.getElem?_map]
  cases vs[k]? <;> simp
def Pa (us : List Slot) (vs : List V) (a : Addr) : Prop := Own (vs.map some) (us.map some) a
theorem pa_iff {a : Addr} : Pa us vs a ↔ ∃ (k : Nat) (ds : List D), us[k]? = some (.own ds) ∧ vs[k]? = some (.ref a) := by
  unfold Pa Own
  simp only [getS_map, get_map]
/-- what the callee may not touch -/
def Bc (B : Addr → Prop) (σ : St) (env : Env) (us : List Slot) (vs : List V) (a : Addr) : Prop := Avd B σ env a ∧ ¬ Pa us vs a

theorem call_in (p : APost K B Fx σ env H env1 H1 as ss vs) (hu : atCall as ss env1 = some us) (hn : (refsOf as).Nodup) : EnvOk K (Bc B σ env1 us vs) H1 (vs.map some) (us.map some) := by
  have z := AZ.of p.ok p.rep hu
  obtain ⟨l1, l2⟩ := z.lens
  have av : ∀ a, Avd (Bc B σ env1 us vs) (vs.map some) (us.map some) a → Avd (fun a => B a ∨ TmL as ss vs a) σ env1 a := fun a q => by
    rcases q with ⟨q, _⟩ | q
    · exact q.elim (fun b => .inl (.inl b)) .inr
    · obtain ⟨k, ds, e1, e2⟩ := pa_iff.mp q
      obtain ⟨v, e3, _, h⟩ := z.at e1
      rw [e2] at e3; cases e3
      rcases h with ⟨i, _, h1, h2⟩ | ⟨_, h⟩
      · exact .inr ⟨i, ds, h1, h2⟩
      · exact .inl (.inr (h a ⟨⟨ds, rfl⟩, rfl⟩))
  refine ⟨by simp [l1, l2], fun k s e => ?_, fun j k ds es a h1 h2 h3 h4 => ?_, fun a q => ?_, fun a o q => q.2 o⟩
  · rw [getS_map] at e
    obtain ⟨v, e3, r, _⟩ := z.at e
    exact ⟨v, get_map.mpr e3, r.less av⟩
  · rw [getS_map] at h1 h2
    exact z.uniq p.dis hn p.ok.uniq (fun a o t => p.ok.bo a o (.inr t)) _ _ _ _ _ h1 h2 (get_map.mp h3) (get_map.mp h4)
  · rcases q.1 with b | o
    · exact p.ok.bd a (.inl b)
    · obtain ⟨_, e⟩ := p.ok.ownAt o
      rw [e]; intro z; cases z

theorem call_av (p : APost K B Fx σ env H env1 H1 as ss vs) (hu : atCall as ss env1 = some us) (hn : (refsOf as).Nodup) {Bx : Addr → Prop} {ps : Env} (ok' : EnvOk K Bx H' (vs.map some) ps) :
    (∀ a, Own σ (putBack as ps env1) a → (Own (vs.map some) ps a ∨ (Own σ env1 a ∧ ¬ Pa us vs a))) ∧ (∀ a, B a → ¬ Pa us vs a) := by
  have z := AZ.of p.ok p.rep hu
  obtain ⟨l1, l2⟩ := z.lens
  have lp : ps.length = as.length := by rw [ok'.len]; simpa using l2
  refine ⟨fun a ⟨j, ds, h1, h2⟩ => ?_, fun a b q => ?_⟩
  · by_cases hj : j ∈ refsOf as
    · obtain ⟨k, hk⟩ := refs_ix hj
      obtain ⟨s, v, e1, e2, e3, e4⟩ := z.refAt hk
      have kl : k < as.length := (List.getElem?_eq_some_iff.mp hk).1
      rw [back_in hn hk (by omega) (getS_lt e3)] at h1
      rw [h2] at e4; cases e4
      exact .inl ⟨k, ds, h1, get_map.mpr e2⟩
    · rw [back_out hj] at h1
      have o : Own σ env1 a := ⟨j, ds, h1, h2⟩
      refine .inr ⟨o, fun q => ?_⟩
      obtain ⟨k, ds', e1, e2⟩ := pa_iff.mp q
      obtain ⟨v, e3, _, h⟩ := z.at e1
      rw [e2] at e3; cases e3
      rcases h with ⟨i, h0, h3, h4⟩ | ⟨_, h⟩
      · have := p.ok.uniq _ _ _ _ a h1 h3 h2 h4
        subst this
        exact hj (AZ.uniq.refs_mem h0)
      · exact p.ok.bo a o (.inr (h a ⟨⟨ds', rfl⟩, rfl⟩))
  · obtain ⟨k, ds', e1, e2⟩ := pa_iff.mp q
    obtain ⟨v, e3, _, h⟩ := z.at e1
    rw [e2] at e3; cases e3
    rcases h with ⟨i, h0, h3, h4⟩ | ⟨_, h⟩
    · exact p.ok.bo a ⟨i, ds', h3, h4⟩ (.inl b)
    · exact (p.new a (h a ⟨⟨ds', rfl⟩, rfl⟩)).1 b

/-- behind a call: T what the value owns itself -/
theorem call_out (p : APost K B Fx σ env H env1 H1 as ss vs) (hu : atCall as ss env1 = some us) (hn : (refsOf as).Nodup) {T : Addr → Prop} {ps : Env} (ok' : EnvOk K (fun a => Bc B σ env1 us vs a ∨ T a) H' (vs.map some) ps)
    (st' : Step Top (vs.map some) (us.map some) H1 (vs.map some) ps H') (hT : ∀ a, T a → Pa us vs a ∨ H1 a = none) :
    EnvOk K (fun a => B a ∨ T a) H' σ (putBack as ps env1) ∧ Step Fx σ env H σ (putBack as ps env1) H' ∧ (∀ a, Avd (fun a => B a ∨ T a) σ (putBack as ps env1) a → Avd (fun a => Bc B σ env1 us vs a ∨ T a) (vs.map some) ps a) := by
  have z := AZ.of p.ok p.rep hu
  obtain ⟨l1, l2⟩ := z.lens
  have lp : ps.length = as.length := by rw [ok'.len]; simpa using l2
  obtain ⟨ow, bp⟩ := call_av p hu hn ok'
  have av : ∀ a, Avd (fun a => B a ∨ T a) σ (putBack as ps env1) a → Avd (fun a => Bc B σ env1 us vs a ∨ T a) (vs.map some) ps a := fun a q => by
    rcases q with (q | q) | q
    · exact .inl (.inl ⟨.inl q, bp a q⟩)
    · exact .inl (.inr q)
    · rcases ow a q with q | ⟨q, n⟩
      · exact .inr q
      · exact .inl (.inl ⟨.inr q, n⟩)
  -- what stood and is not handed in stands
  have kp : ∀ a o, H1 a = some o → ¬ Pa us vs a → H' a = some o := st'.keep
  have oc : ∀ a, Own (vs.map some) ps a → Pa us vs a ∨ H1 a = none := fun a o => st'.own a o
  have av1 : ∀ a ws, H1 a = some (.lst ws) → ¬ Avd (fun a => B a ∨ TmL as ss vs a) σ env1 a → ¬ Pa us vs a := fun a ws e n q => by
    obtain ⟨k, ds', e1, e2⟩ := pa_iff.mp q
    obtain ⟨v, e3, _, h⟩ := z.at e1
    rw [e2] at e3; cases e3
    rcases h with ⟨i, h0, h3, h4⟩ | ⟨_, h⟩
    · exact n (.inr ⟨i, ds', h3, h4⟩)
    · exact n (.inl (.inr (h a ⟨⟨ds', rfl⟩, rfl⟩)))
  have hl : ∀ a ws, H1 a = some (.lst ws) → ¬ Avd (fun a => B a ∨ TmL as ss vs a) σ env1 a → H' a = some (.lst ws) ∧ ¬ Avd (fun a => B a ∨ T a) σ (putBack as ps env1) a := fun a ws e n => by
    have np := av1 a ws e n
    refine ⟨kp a _ e np, fun q => ?_⟩
    rcases q with (q | q) | q
    · exact n (.inl (.inl q))
    · exact (hT a q).elim np fun z => by rw [e] at z; cases z
    · rcases ow a q with q | ⟨q, _⟩
      · exact (oc a q).elim np fun z => by rw [e] at z; cases z
      · exact n (.inr q)
  have ot : ∀ a o, H1 a = some o → (∀ ws, o ≠ .lst ws) → H' a = some o := fun a o e no => kp a o e fun q => by
    obtain ⟨k, ds', e1, e2⟩ := pa_iff.mp q
    obtain ⟨v, e3, r, _⟩ := z.at e1
    rw [e2] at e3; cases e3
    obtain ⟨b, ws, e4, e5, _⟩ := r
    cases e4
    rw [e] at e5; cases e5
    exact no ws rfl
  have ht : NoL H1 H' := fun a o no e => ot a o e no
  have hr : ∀ a ws, SqR K H1 a ws → SqR K H' a ws := fun a ws h => by
    rcases h with ⟨o, h⟩ | h
    · exact .inl ⟨o, ot a _ h fun _ z => by cases z⟩
    · exact .inr h
  refine ⟨⟨by rw [back_len]; exact p.ok.len, fun j s e => ?_, fun i j ds es a h1 h2 h3 h4 => ?_, fun a b => ?_, fun a o b => ?_⟩, ⟨fun a o e n => ?_, fun a o => ?_, fun i h => rfl⟩, av⟩
  · by_cases hj : j ∈ refsOf as
    · obtain ⟨k, hk⟩ := refs_ix hj
      obtain ⟨s', v, e1, e2, e3, e4⟩ := z.refAt hk
      have kl : k < as.length := (List.getElem?_eq_some_iff.mp hk).1
      rw [back_in hn hk (by omega) (getS_lt e3)] at e
      obtain ⟨v', q1, q2⟩ := ok'.rep k s e
      have q1 := get_map.mp q1
      rw [e2] at q1; cases q1
      exact ⟨v, e4, q2.less av⟩
    · rw [back_out hj] at e
      obtain ⟨v, e1, r⟩ := p.ok.rep j s e
      refine ⟨v, e1, ?_⟩
      cases s with
      | val d => exact Rep.stab hl ht d v r
      | rd ds =>
        obtain ⟨a, ws, e2, e3, e4⟩ := r
        exact ⟨a, ws, e2, hr a ws e3, RepL.stab hl ht ds ws e4⟩
      | own ds =>
        obtain ⟨a, ws, rfl, e3, e4⟩ := r
        refine ⟨a, ws, rfl, kp a _ e3 fun q => ?_, RepL.stab hl ht ds ws e4⟩
        obtain ⟨k, ds', f1, f2⟩ := pa_iff.mp q
        obtain ⟨v', f3, _, h⟩ := z.at f1
        rw [f2] at f3; cases f3
        rcases h with ⟨i, h0, h3, h4⟩ | ⟨_, h⟩
        · have := p.ok.uniq _ _ _ _ a e h3 e1 h4
          subst this
          exact hj (AZ.uniq.refs_mem h0)
        · exact p.ok.bo a ⟨j, ds, e, e1⟩ (.inr (h a ⟨⟨ds', rfl⟩, rfl⟩))
  · by_cases hi : i ∈ refsOf as
    · obtain ⟨k, hk⟩ := refs_ix hi
      obtain ⟨s', v, e1, e2, e3, e4⟩ := z.refAt hk
      have kl : k < as.length := (List.getElem?_eq_some_iff.mp hk).1
      rw [back_in hn hk (by omega) (getS_lt e3)] at h1
      rw [h3] at e4; cases e4
      by_cases hj : j ∈ refsOf as
      · obtain ⟨k', hk'⟩ := refs_ix hj
        obtain ⟨s', v, f1, f2, f3, f4⟩ := z.refAt hk'
        have kl : k' < as.length := (List.getElem?_eq_some_iff.mp hk').1
        rw [back_in hn hk' (by omega) (getS_lt f3)] at h2
        rw [h4] at f4; cases f4
        have := ok'.uniq k k' _ _ a h1 h2 (get_map.mpr e2) (get_map.mpr f2)
        subst this
        rw [hk] at hk'; cases hk'; rfl
      · exfalso
        rw [back_out hj] at h2
        have o : Own σ env1 a := ⟨j, es, h2, h4⟩
        have o2 : Own (vs.map some) ps a := ⟨k, ds, h1, get_map.mpr e2⟩
        rcases oc a o2 with q | q
        · obtain ⟨k', ds', f1, f2⟩ := pa_iff.mp q
          obtain ⟨v', f3, _, h⟩ := z.at f1
          rw [f2] at f3; cases f3
          rcases h with ⟨i', h0, q3, q4⟩ | ⟨_, h⟩
          · have := p.ok.uniq _ _ _ _ a h2 q3 h4 q4
            subst this
            exact hj (AZ.uniq.refs_mem h0)
          · exact p.ok.bo a o (.inr (h a ⟨⟨ds', rfl⟩, rfl⟩))
        · obtain ⟨_, e⟩ := p.ok.ownAt o
          rw [q] at e; cases e
    · rw [back_out hi] at h1
      by_cases hj : j ∈ refsOf as
      · exfalso
        obtain ⟨k, hk⟩ := refs_ix hj
        obtain ⟨s', v, e1, e2, e3, e4⟩ := z.refAt hk
        have kl : k < as.length := (List.getElem?_eq_some_iff.mp hk).1
        rw [back_in hn hk (by omega) (getS_lt e3)] at h2
        rw [h4] at e4; cases e4
        have o : Own σ env1 a := ⟨i, ds, h1, h3⟩
        have o2 : Own (vs.map some) ps a := ⟨k, es, h2, get_map.mpr e2⟩
        rcases oc a o2 with q | q
        · obtain ⟨k', ds', f1, f2⟩ := pa_iff.mp q
          obtain ⟨v', f3, _, h⟩ := z.at f1
          rw [f2] at f3; cases f3
          rcases h with ⟨i', h0, q3, q4⟩ | ⟨_, h⟩
          · have := p.ok.uniq _ _ _ _ a h1 q3 h3 q4
            subst this
            exact hi (AZ.uniq.refs_mem h0)
          · exact p.ok.bo a o (.inr (h a ⟨⟨ds', rfl⟩, rfl⟩))
        · obtain ⟨_, e⟩ := p.ok.ownAt o
          rw [q] at e; cases e
      · rw [back_out hj] at h2
        exact p.ok.uniq i j _ _ a h1 h2 h3 h4
  · rcases b with b | b
    · intro q
      cases e : H1 a with
      | none => exact p.ok.bd a (.inl b) e
      | some o => rw [kp a o e (bp a b)] at q; cases q
    · exact ok'.bd a (.inr b)
  · rcases ow a o with q | ⟨q, n⟩
    · rcases b with b | b
      · exact ok'.bo a q (.inl ⟨.inl b, bp a b⟩)
      · exact ok'.bo a q (.inr b)
    · rcases b with b | b
      · exact p.ok.bo a q (.inl b)
      · rcases hT a b with t | t
        · exact n t
        · obtain ⟨_, e⟩ := p.ok.ownAt q
          rw [t] at e; cases e
  · have e1 := p.st.keep a o e n
    refine kp a o e1 fun q => ?_
    obtain ⟨k', ds', f1, f2⟩ := pa_iff.mp q
    obtain ⟨v', f3, _, h⟩ := z.at f1
    rw [f2] at f3; cases f3
    rcases h with ⟨i', h0, q3, q4⟩ | ⟨_, h⟩
    · exact (p.st.own a ⟨i', ds', q3, q4⟩).elim n fun z => by rw [e] at z; cases z
    · exact (p.new a (h a ⟨⟨ds', rfl⟩, rfl⟩)).2.elim n fun z => by rw [e] at z; cases z
  · rcases ow a o with q | ⟨q, _⟩
    · rcases oc a q with q | q
      · obtain ⟨k', ds', f1, f2⟩ := pa_iff.mp q
        obtain ⟨v', f3, _, h⟩ := z.at f1
        rw [f2] at f3; cases f3
        rcases h with ⟨i', h0, q3, q4⟩ | ⟨_, h⟩
        · exact p.st.own a ⟨i', ds', q3, q4⟩
        · exact (p.new a (h a ⟨⟨ds', rfl⟩, rfl⟩)).2
      · exact p.st.back q
    · exact p.st.own a q
end

/-! ### the call -/
def CRun (M : Mdl) (Bx : Addr → Prop) (us : List Slot) (vs : List V) (H : Hp) (Q : VK) (E : XK) : CR → Prop
  | .ret s ps => ∀ H' v, Post M.K Bx Top (vs.map some) (us.map some) H ps H' s v → Q v H'
  | .exc c ds ps => ∀ H' dx, XPost M Bx Top (vs.map some) (us.map some) H (vs.map some) ps H' c ds dx → E (M.cls c) dx H'
  | .no => False
/-- a def's promise -/
def spOf (M : Mdl) (C : Ctx) (n f : Nat) : Sp := fun vs H Q E => vs.length = n ∧ ∃ Bx us, EnvOk M.K Bx H (vs.map some) (us.map some) ∧ CRun M Bx us vs H Q E (C.call f us)

section
variable {M : Mdl} {W : WX} {Fx : Nat → Prop} {X : Cx} {C : Ctx} {pos : Pos} {k : Nat} {f : Addr} {fd : FuncData} {ps : List Str} {x : Str} {p : Pos} {e : Expr} {es : List Expr} {fi : Nat} {as : List Arg}
theorem AsR.call {σ : St} {H : Hp} {Q : VK} (hn : (refsOf as).Nodup) (hl : as.length = ps.length) (h : EvR M W Fx (cCall fi as C) σ H Q) : AsR M W Fx as (evA C as) σ H fun vs H1 => spOf M C ps.length fi vs H1 Q (WE W σ) := by
  obtain ⟨B, env, ok, h⟩ := h
  unfold cCall at h
  rw [RRun.bind] at h
  refine ⟨B, env, ok, RRun.imp h (fun ss e1 q H1 vs p => ?_) fun _ _ _ q => q⟩
  rw [RRun.bind, RRun.opt] at q
  obtain ⟨us, hu, q⟩ := q
  have z := AZ.of p.ok p.rep hu
  refine ⟨by rw [z.lens.2]; exact hl, _, us, call_in p hu hn, ?_⟩
  cases hc : C.call fi us with
  | no => rw [hc] at q; exact q
  | ret s qs =>
    rw [hc] at q
    intro H' v p2
    obtain ⟨o1, o2, o3⟩ := call_out (T := Tm s v) p hu hn p2.ok p2.st fun a t => (p2.new a t).2
    refine q H' v ⟨o1, o2, p2.rep.less o3, fun a t => ⟨fun b => ?_, ?_⟩, p2.nrd⟩
    · obtain ⟨n1, n2⟩ := p2.new a t
      exact n1 ⟨.inl b, (call_av p hu hn p2.ok).2 a b⟩
    · rcases (p2.new a t).2 with q | q
      · obtain ⟨k', ds', f1, f2⟩ := pa_iff.mp q
        obtain ⟨v', f3, _, h⟩ := z.at f1
        rw [f2] at f3; cases f3
        rcases h with ⟨i', h0, q3, q4⟩ | ⟨_, h⟩
        · exact p.st.own a ⟨i', ds', q3, q4⟩
        · exact (p.new a (h a ⟨⟨ds', rfl⟩, rfl⟩)).2
      · exact p.st.back q
  | exc c ds qs =>
    rw [hc] at q
    intro H' dx p2
    obtain ⟨o1, o2, o3⟩ := call_out (T := fun _ => False) p hu hn (p2.ok.mono fun a b => b.elim id False.elim) p2.st fun a t => t.elim
    exact q H' dx ⟨o1.mono fun a b => .inl b, o2, M.xl _ _ _ _ _ _ (fun a t => (o3 a (t.elim (fun b => .inl (.inl b)) .inr)).elim (fun b => b.elim .inl False.elim) .inr) p2.x⟩
theorem sd_call (F : FnOk X.prog X.w X.K X.mg X.base (CX X.prog X.w) k f fd ps (spOf M C ps.length fi)) (hr : Room k X.A) (hg : Gl X x) (hm : X.mg x = some (.ref f)) (hk : PySem.W.keepIn X.K (.ref f) = true) (hb : Binds X.K fd ps []) (tk : Takes X W)
    (ha : PA X (e :: es) (AsR M W Fx as (evA C as))) (hn : (refsOf as).Nodup) (hl : as.length = ps.length) (hdb : (x == ("__debug__" : Str)) = false)
    (he : starEach (e :: es) X.env = (false, eval e X.env) :: starEach es X.env) (hpl : (backTo pos (starEach es X.env)).any (·.1) = false) : PE X (.Call (.Name x p) (e :: es) [] pos) (EvR M W Fx (cCall fi as C)) :=
  pe_weak (pe_callS F hr hg hm hk hb (passAt tk) ha hdb he hpl) fun σ H Q h => AsR.call hn hl h
end
end Ev
end
section
set_option linter.all false
set_option maxRecDepth 100000
set_option maxHeartbeats 2000000
/-! soundness 6: statements -/
namespace Ev
open PySem L2

structure PostR (K : Frag) (B : Addr → Prop) (Fx : Nat → Prop) (σ : St) (env : Env) (H : Hp) (σ' : St) (env' : Env) (H' : Hp) (s : Slot) (v : V) : Prop where
  ok : EnvOk K (Bt B s v) H' σ' env'
  st : Step Fx σ env H σ' env' H'
  rep : SRep K (Avd (Bt B s v) σ' env') H' s v
  new : ∀ a, Tm s v a → ¬ B a ∧ (Own σ env a ∨ H a = none)
  nrd : ∀ ds, s ≠ .rd ds
def FRun (M : Mdl) (W : WX) (B : Addr → Prop) (Fx : Nat → Prop) (σ : St) (env : Env) (H : Hp) (Z : Ends) : F → Prop
  | .next e' => ∀ σ' H', EnvOk M.K B H' σ' e' → Step Fx σ env H σ' e' H' → Z.nx σ' H'
  | .brk e' => ∀ σ' H', EnvOk M.K B H' σ' e' → Step Fx σ env H σ' e' H' → Z.bk σ' H'
  | .cont e' => ∀ σ' H', EnvOk M.K B H' σ' e' → Step Fx σ env H σ' e' H' → Z.ct σ' H'
  | .ret s e' => ∀ σ' H' v, PostR M.K B Fx σ env H σ' e' H' s v → Z.rt v H'
  | .exc c ds e' => ∀ σ' H' dx, XPost M B Fx σ env H σ' e' H' c ds dx → W (M.cls c) dx σ' H'
  | .no => False
def SvR (M : Mdl) (W : WX) (Fx : Nat → Prop) (r : Env → F) : TS := fun Z σ H => ∃ B env, EnvOk M.K B H σ env ∧ FRun M W B Fx σ env H Z (r env)

section
variable {M : Mdl} {W : WX} {B : Addr → Prop} {Fx : Nat → Prop} {σ σ1 : St} {env env1 : Env} {H H1 : Hp} {Z Z' : Ends} {f : F}
theorem PostR.more {σ2 : St} {e2 : Env} {H2 : Hp} {s : Slot} {v : V} {K : Frag} (st : Step Fx σ env H σ1 env1 H1) (p : PostR K B Fx σ1 env1 H1 σ2 e2 H2 s v) : PostR K B Fx σ env H σ2 e2 H2 s v where
  ok := p.ok
  st := st.trans p.st
  rep := p.rep
  new := fun a t => by
    obtain ⟨h1, h3⟩ := p.new a t
    exact ⟨h1, h3.elim (fun o => st.own a o) fun n => st.back n⟩
  nrd := p.nrd
theorem FRun.step (st : Step Fx σ env H σ1 env1 H1) (h : FRun M W B Fx σ env H Z f) : FRun M W B Fx σ1 env1 H1 Z f := by
  cases f with
  | next e => exact fun σ' H' o s => h σ' H' o (st.trans s)
  | brk e => exact fun σ' H' o s => h σ' H' o (st.trans s)
  | cont e => exact fun σ' H' o s => h σ' H' o (st.trans s)
  | ret s e => exact fun σ' H' v p => h σ' H' v (p.more st)
  | exc c ds e => exact fun σ' H' dx p => h σ' H' dx ⟨p.ok, st.trans p.st, p.x⟩
  | no => exact h
theorem FRun.imp (h : FRun M W B Fx σ env H Z f) (hn : ∀ σ H, Z.nx σ H → Z'.nx σ H) (hr : ∀ v H, Z.rt v H → Z'.rt v H) (hb : ∀ σ H, Z.bk σ H → Z'.bk σ H) (hc : ∀ σ H, Z.ct σ H → Z'.ct σ H) : FRun M W B Fx σ env H Z' f := by
  cases f with
  | next e => exact fun σ' H' o s => hn _ _ (h σ' H' o s)
  | brk e => exact fun σ' H' o s => hb _ _ (h σ' H' o s)
  | cont e => exact fun σ' H' o s => hc _ _ (h σ' H' o s)
  | ret s e => exact fun σ' H' v p => hr _ _ (h σ' H' v p)
  | exc c ds e => exact h
  | no => exact h
theorem flow_run {α : Type} {r : R α} {g : α → Env → F} : FRun M W B Fx σ env H Z (r.flow g) ↔ RRun r (fun a e => FRun M W B Fx σ env H Z (g a e)) (fun c ds e => ∀ σ' H' dx, XPost M B Fx σ env H σ' e H' c ds dx → W (M.cls c) dx σ' H') := by
  cases r <;> exact Iff.rfl
theorem orNo_run {o : Option F} : FRun M W B Fx σ env H Z (orNo o) ↔ ∃ f, o = some f ∧ FRun M W B Fx σ env H Z f := by
  cases o with
  | none => exact ⟨fun h => h.elim, fun ⟨_, h, _⟩ => by cases h⟩
  | some f => exact ⟨fun h => ⟨f, rfl, h⟩, fun ⟨_, h, q⟩ => by cases h; exact q⟩
theorem xq_of {c : Nat} {ds : List D} {e : Env} (h : ∀ σ' H' dx, XPost M B Fx σ env H σ' e H' c ds dx → W (M.cls c) dx σ' H') : XQ M W B Fx σ env H c ds e := fun H' dx p => h σ H' dx p

/-- an expression, then the rest of the statement -/
theorem EvR.flow {m : Env → R Slot} {g : Slot → Env → F} {Q : VK} (ok : EnvOk M.K B H σ env) (h : FRun M W B Fx σ env H Z ((m env).flow g))
    (k : ∀ s e1 H1 v, Post M.K B Fx σ env H e1 H1 s v → FRun M W B Fx σ env H Z (g s e1) → Q v H1) : EvR M W Fx m σ H Q :=
  EvR.then ok ((flow_run.mp h).imp (fun _ _ q => q) fun _ _ _ q => xq_of q) fun s e1 H1 v q p => k s e1 H1 v p q
theorem EvR.flowV {m : Env → R Slot} {g : D → Env → F} {Q : VK} (ok : EnvOk M.K B H σ env) (h : FRun M W B Fx σ env H Z ((Ev.val (m env)).flow g))
    (k : ∀ d e1 H1 v, EnvOk M.K B H1 σ e1 → Step Fx σ env H σ e1 H1 → Rep M.K (Avd B σ e1) H1 d v → FRun M W B Fx σ e1 H1 Z (g d e1) → Q v H1) : EvR M W Fx m σ H Q := by
  have h := flow_run.mp h
  unfold Ev.val at h
  rw [RRun.bind] at h
  refine EvR.then ok (h.imp (fun _ _ q => q) fun _ _ _ q => xq_of q) fun s e1 H1 v q p => ?_
  obtain ⟨d, e, q⟩ := RRun.opt.mp q
  exact k d e1 H1 v p.ok' p.st (p.dat e) (q.step p.st)
theorem TvR.flow {m : Env → R Bool} {g : Bool → Env → F} {Q : Bool → Hp → Prop} (ok : EnvOk M.K B H σ env) (h : FRun M W B Fx σ env H Z ((m env).flow g))
    (k : ∀ b e1 H1, EnvOk M.K B H1 σ e1 → Step Fx σ env H σ e1 H1 → FRun M W B Fx σ e1 H1 Z (g b e1) → Q b H1) : TvR M W Fx m σ H Q :=
  TvR.then ok ((flow_run.mp h).imp (fun _ _ q => q) fun _ _ _ q => xq_of q) fun b e1 H1 q o st => k b e1 H1 o st (q.step st)

/-! ### a name gets a value -/
theorem PostR.dat {K : Frag} {σ0 : St} {s : Slot} {v : V} {d : D} (p : PostR K B Fx σ0 env H σ env1 H1 s v) (e : s.dat = some d) : Rep K (Avd B σ env1) H1 d v := by
  cases s with
  | val d' => cases e; exact Rep.less p.rep (avd_less fun _ b => .inl b)
  | rd ds => cases e
  | own ds =>
    cases e
    obtain ⟨a, vs, e1, e2, e3⟩ := p.rep
    obtain ⟨n1, _⟩ := p.new a ⟨⟨ds, rfl⟩, e1⟩
    exact ⟨a, vs, e1, fun q => q.elim n1 fun o => p.ok.bo a o (.inr ⟨⟨ds, rfl⟩, e1⟩), e2, e3.less (avd_less fun _ b => .inl b)⟩
theorem asgnR {σ0 : St} {i : Nat} {s s' : Slot} {v : V} (hf : ¬ Fx i) (p : PostR M.K B Fx σ0 env H σ env1 H1 s v) {own : Bool} (hs : keep own s = some s') :
    EnvOk M.K B H1 (σ.set i (some v)) (env1.set i (some s')) ∧ Step Fx σ0 env H (σ.set i (some v)) (env1.set i (some s')) H1 := by
  by_cases hi : i < env1.length
  case neg =>
    have e1 : env1.set i (some s') = env1 := List.set_eq_of_length_le (by omega)
    have e2 : σ.set i (some v) = σ := List.set_eq_of_length_le (by have := p.ok.len; omega)
    rw [e1, e2]
    exact ⟨(p.ok.mono fun _ b => .inl b), p.st⟩
  have hl : i < σ.length := by have := p.ok.len; omega
  have so : (∃ ds, s' = .own ds ∧ s = .own ds) ∨ ∃ d, s' = .val d ∧ s.dat = some d := by
    unfold keep at hs
    split at hs
    · cases hs; exact .inl ⟨_, rfl, rfl⟩
    · obtain ⟨d, hd, rfl⟩ := Option.map_eq_some_iff.mp hs
      exact .inr ⟨d, rfl, hd⟩
  have gs : ∀ j t, getS (env1.set i (some s')) j = some t → (j = i ∧ t = s') ∨ (j ≠ i ∧ getS env1 j = some t) := fun j t h => by
    rw [getS_set] at h
    by_cases hj : i = j
    · rw [if_pos ⟨hj, hi⟩] at h
      cases h
      exact .inl ⟨hj.symm, rfl⟩
    · rw [if_neg (fun q => hj q.1)] at h
      exact .inr ⟨fun z => hj z.symm, h⟩
  have sg : ∀ j, j ≠ i → (σ.set i (some v))[j]? = σ[j]? := fun j n => List.getElem?_set_ne (fun z => n z.symm)
  have si : (σ.set i (some v))[i]? = some (some v) := List.getElem?_set_self hl
  have ow : ∀ a, Own (σ.set i (some v)) (env1.set i (some s')) a → (∃ ds, s = .own ds ∧ s' = .own ds ∧ v = .ref a) ∨ Own σ env1 a := fun a ⟨j, ds, h1, h2⟩ => by
    rcases gs j _ h1 with ⟨rfl, h⟩ | ⟨n, h⟩
    · rw [si] at h2
      rcases so with ⟨ds', q1, q2⟩ | ⟨d, q1, _⟩
      · exact .inl ⟨ds', q2, q1, by cases h2; rfl⟩
      · rw [q1] at h; cases h
    · rw [sg j n] at h2
      exact .inr ⟨j, ds, h, h2⟩
  have av : ∀ a, Avd B (σ.set i (some v)) (env1.set i (some s')) a → Avd (Bt B s v) σ env1 a := fun a q => by
    rcases q with q | q
    · exact .inl (.inl q)
    · rcases ow a q with ⟨ds, h1, _, h2⟩ | q
      · exact .inl (.inr ⟨⟨ds, h1⟩, h2⟩)
      · exact .inr q
  refine ⟨⟨by rw [List.length_set, List.length_set]; exact p.ok.len, fun j t h => ?_, fun j k ds es a h1 h2 h3 h4 => ?_, fun a b => p.ok.bd a (.inl b), fun a o b => ?_⟩, ⟨p.st.keep, fun a o => ?_, fun j h => ?_⟩⟩
  · rcases gs j t h with ⟨rfl, rfl⟩ | ⟨n, h⟩
    · refine ⟨v, si, ?_⟩
      rcases so with ⟨ds, q1, q2⟩ | ⟨d, q1, q2⟩
      · rw [q1]
        have r := p.rep
        rw [q2] at r
        obtain ⟨a, vs, e1, e2, e3⟩ := r
        exact ⟨a, vs, e1, e2, e3.less fun b hb => by have := av b (by rw [q1]; exact hb); rw [q2] at this; exact this⟩
      · rw [q1]
        refine Rep.less (p.dat q2) fun a q => ?_
        rcases q with q | q
        · exact .inl q
        · rcases ow a (by rw [q1]; exact q) with ⟨ds, _, h2, _⟩ | q
          · rw [q1] at h2; cases h2
          · exact .inr q
    · obtain ⟨w, e1, r⟩ := p.ok.rep j t h
      exact ⟨w, by rw [sg j n]; exact e1, r.less av⟩
  · rcases gs j _ h1 with ⟨rfl, g1⟩ | ⟨n1, g1⟩
    · rcases gs k _ h2 with ⟨rfl, g2⟩ | ⟨n2, g2⟩
      · rfl
      · exfalso
        rw [si] at h3; rw [sg k n2] at h4
        rcases so with ⟨ds', q1, q2⟩ | ⟨d, q1, _⟩
        · exact p.ok.bo a ⟨k, es, g2, h4⟩ (.inr ⟨⟨ds', q2⟩, by cases h3; rfl⟩)
        · rw [q1] at g1; cases g1
    · rcases gs k _ h2 with ⟨rfl, g2⟩ | ⟨n2, g2⟩
      · exfalso
        rw [si] at h4; rw [sg j n1] at h3
        rcases so with ⟨ds', q1, q2⟩ | ⟨d, q1, _⟩
        · exact p.ok.bo a ⟨j, ds, g1, h3⟩ (.inr ⟨⟨ds', q2⟩, by cases h4; rfl⟩)
        · rw [q1] at g2; cases g2
      · rw [sg j n1] at h3; rw [sg k n2] at h4
        exact p.ok.uniq j k _ _ a g1 g2 h3 h4
  · rcases ow a o with ⟨ds, h1, _, h2⟩ | q
    · exact (p.new a ⟨⟨ds, h1⟩, h2⟩).1 b
    · exact p.ok.bo a q (.inl b)
  · rcases ow a o with ⟨ds, h1, _, h2⟩ | q
    · exact (p.new a ⟨⟨ds, h1⟩, h2⟩).2
    · exact p.st.own a q
  · have n : j ≠ i := fun z => hf (z ▸ h)
    exact (sg j n).trans (p.st.fx j h)

theorem asgn {i : Nat} {s s' : Slot} {v : V} (hf : ¬ Fx i) (p : Post M.K B Fx σ env H env1 H1 s v) {own : Bool} (hs : keep own s = some s') :
    EnvOk M.K B H1 (σ.set i (some v)) (env1.set i (some s')) ∧ Step Fx σ env H (σ.set i (some v)) (env1.set i (some s')) H1 := asgnR hf ⟨p.ok, p.st, p.rep, p.new, p.nrd⟩ hs

/-! ### an owned list is changed -/
theorem change {i : Nat} {ds ds' : List D} {a : Addr} {vs vs' : List V} (ok : EnvOk M.K B H σ env) (e : getS env i = some (.own ds)) (hv : σ[i]? = some (some (.ref a))) (hH : H a = some (.lst vs)) (r : RepL M.K (Avd B σ env) H ds' vs') :
    EnvOk M.K B (upd H a (.lst vs')) σ (env.set i (some (.own ds'))) ∧ Step Fx σ env H σ (env.set i (some (.own ds'))) (upd H a (.lst vs')) := by
  have hi := getS_lt e
  have oa : Own σ env a := ⟨i, ds, e, hv⟩
  have gs : ∀ j t, getS (env.set i (some (.own ds'))) j = some t → (j = i ∧ t = .own ds') ∨ (j ≠ i ∧ getS env j = some t) := fun j t h => by
    rw [getS_set] at h
    by_cases hj : i = j
    · rw [if_pos ⟨hj, hi⟩] at h
      cases h
      exact .inl ⟨hj.symm, rfl⟩
    · rw [if_neg (fun q => hj q.1)] at h
      exact .inr ⟨fun z => hj z.symm, h⟩
  have ow : ∀ b, Own σ (env.set i (some (.own ds'))) b ↔ Own σ env b := fun b => by
    constructor
    · rintro ⟨j, es, h1, h2⟩
      rcases gs j _ h1 with ⟨rfl, h⟩ | ⟨n, h⟩
      · exact ⟨j, ds, e, h2⟩
      · exact ⟨j, es, h, h2⟩
    · rintro ⟨j, es, h1, h2⟩
      by_cases hj : j = i
      · subst hj
        exact ⟨j, ds', by rw [getS_set, if_pos ⟨rfl, hi⟩], h2⟩
      · exact ⟨j, es, by rw [getS_set, if_neg (fun q => hj q.1.symm)]; exact h1, h2⟩
  have av : ∀ b, Avd B σ (env.set i (some (.own ds'))) b → Avd B σ env b := fun b q => q.elim .inl fun o => .inr ((ow b).mp o)
  have hl : ∀ b ws, H b = some (.lst ws) → ¬ Avd B σ env b → upd H a (.lst vs') b = some (.lst ws) ∧ ¬ Avd B σ (env.set i (some (.own ds'))) b := fun b ws q n =>
    ⟨by rw [upd_ne (fun z => n (by rw [z]; exact .inr oa))]; exact q, fun q => n (av b q)⟩
  have ht : NoL H (upd H a (.lst vs')) := .lst hH
  refine ⟨⟨by rw [List.length_set]; exact ok.len, fun j t h => ?_, fun j k ds es b h1 h2 h3 h4 => ?_, fun b hb => ?_, fun b o => ok.bo b ((ow b).mp o)⟩, ⟨fun b o q n => ?_, fun b o => .inl ((ow b).mp o), fun _ _ => rfl⟩⟩
  · rcases gs j t h with ⟨rfl, rfl⟩ | ⟨n, h⟩
    · exact ⟨_, hv, a, vs', rfl, upd_same, RepL.stab hl ht ds' vs' r⟩
    · obtain ⟨w, e1, r⟩ := ok.rep j t h
      refine ⟨w, e1, ?_⟩
      cases t with
      | val d => exact Rep.stab hl ht d w r
      | own es =>
        obtain ⟨b, ws, rfl, e2, e3⟩ := r
        have : b ≠ a := fun z => by subst z; exact n (ok.uniq j i _ _ b h e e1 hv)
        exact ⟨b, ws, rfl, by rw [upd_ne this]; exact e2, RepL.stab hl ht es ws e3⟩
      | rd es =>
        obtain ⟨b, ws, e0, e2, e3⟩ := r
        refine ⟨b, ws, e0, ?_, RepL.stab hl ht es ws e3⟩
        rcases e2 with ⟨o, h⟩ | h
        · exact .inl ⟨o, by rw [upd_ne (fun z => by rw [z, hH] at h; cases h)]; exact h⟩
        · exact .inr h
  · have g : ∀ j t, getS (env.set i (some (.own ds'))) j = some (.own t) → ∃ t', getS env j = some (.own t') := fun j t h => by
      rcases gs j _ h with ⟨z, _⟩ | ⟨_, h⟩
      · exact ⟨_, z ▸ e⟩
      · exact ⟨t, h⟩
    obtain ⟨t1, g1⟩ := g j _ h1
    obtain ⟨t2, g2⟩ := g k _ h2
    exact ok.uniq j k _ _ b g1 g2 h3 h4
  · by_cases z : b = a
    · subst z; rw [upd_same]; intro q; cases q
    · rw [upd_ne z]; exact ok.bd b hb
  · rw [upd_ne (fun z => n (by rw [z]; exact oa))]; exact q
end
end Ev
end
section
set_option linter.all false
set_option maxRecDepth 100000
set_option maxHeartbeats 2000000
/-! soundness 7: rules for statements, targets, walks -/
namespace Ev
open PySem L2

section
variable {M : Mdl} {W : WX} {Fx : Nat → Prop} {X : Cx} {C : Ctx} {pos : Pos}
theorem ps_weak {st : Stmt} {t t' : TS} (h : PS X st t) (w : ∀ Z σ H, t' Z σ H → t Z σ H) : PS X st t' := ⟨fun pins s σ H Z I q => h.run pins s σ H Z I (w Z σ H q)⟩
theorem pss_weak {st : List Stmt} {t t' : TS} (h : PSs X st t) (w : ∀ Z σ H, t' Z σ H → t Z σ H) : PSs X st t' := ⟨fun pins s σ H Z I q => h.run pins s σ H Z I (w Z σ H q)⟩
theorem pi_weak {tg it : Expr} {t t' : TI} (h : PI X tg it t) (w : ∀ σ H R, t' σ H R → t σ H R) : PI X tg it t' := ⟨fun pins s σ H R I q => h.run pins s σ H R I (w σ H R q)⟩

theorem ss_nil : PSs X [] (SvR M W Fx (sPass C)) := pss_weak pss_nil fun Z σ H ⟨B, env, ok, h⟩ => h σ H ok Step.refl
theorem ss_cons {st : Stmt} {rest : List Stmt} {a b : Sx} (h1 : PS X st (SvR M W Fx (a C))) (h2 : PSs X rest (SvR M W Fx (b C))) : PSs X (st :: rest) (SvR M W Fx (sSeq a b C)) := by
  refine pss_weak (pss_cons h1 h2) fun Z σ H ⟨B, env, ok, h⟩ => ?_
  refine ⟨B, env, ok, ?_⟩
  have h : FRun M W B Fx σ env H Z ((a C env).seq (b C)) := h
  cases e : a C env with
  | next e1 =>
    rw [e] at h
    exact fun σ1 H1 o1 s1 => ⟨B, e1, o1, FRun.step s1 h⟩
  | ret s e1 => rw [e] at h; exact h
  | brk e1 => rw [e] at h; exact h
  | cont e1 => rw [e] at h; exact h
  | exc c ds e1 => rw [e] at h; exact h
  | no => rw [e] at h; exact h
theorem s_pass : PS X (.Pass pos) (SvR M W Fx (sPass C)) := ps_weak ps_pass fun Z σ H ⟨B, env, ok, h⟩ => h σ H ok Step.refl
theorem s_brk : PS X (.Break pos) (SvR M W Fx (sBrk C)) := ps_weak ps_break fun Z σ H ⟨B, env, ok, h⟩ => h σ H ok Step.refl
theorem s_cont : PS X (.Continue pos) (SvR M W Fx (sCont C)) := ps_weak ps_continue fun Z σ H ⟨B, env, ok, h⟩ => h σ H ok Step.refl
theorem Post.keepR {K : Frag} {B : Addr → Prop} {σ : St} {env e1 : Env} {H H1 : Hp} {s s' : Slot} {v : V} {own : Bool} (p : Post K B Fx σ env H e1 H1 s v) (hs : keep own s = some s') : PostR K B Fx σ env H σ e1 H1 s' v := by
  unfold keep at hs
  split at hs
  · cases hs; exact ⟨p.ok, p.st, p.rep, p.new, p.nrd⟩
  · obtain ⟨d, hd, rfl⟩ := Option.map_eq_some_iff.mp hs
    have q := Post.val p.ok' p.st (p.dat hd)
    exact ⟨q.ok, q.st, q.rep, q.new, q.nrd⟩
theorem s_ret {e : Expr} {m : Ex} {own : Bool} (he : PE X e (EvR M W Fx (m C))) : PS X (.Return (some e) pos) (SvR M W Fx (sRet m own C)) := by
  refine ps_weak (ps_ret he) fun Z σ H ⟨B, env, ok, h⟩ => ?_
  refine EvR.flow ok h fun s e1 H1 v p q => ?_
  obtain ⟨f, hf, q⟩ := orNo_run.mp q
  obtain ⟨s', hs, rfl⟩ := Option.map_eq_some_iff.mp hf
  exact q σ H1 v (p.keepR hs)
theorem s_retN : PS X (.Return none pos) (SvR M W Fx (sRetN C)) := by
  refine ps_weak ps_retN fun Z σ H ⟨B, env, ok, h⟩ => ?_
  have p : Post M.K B Fx σ env H env H (.val .none) .non := Post.val ok Step.refl rfl
  exact h σ H .non (p.keepR (own := false) rfl)
theorem s_exp {e : Expr} {m : Ex} (hs : swapsWith e none pos.line X.env = pure false) (he : PE X e (EvR M W Fx (m C))) : PS X (.Expr e pos) (SvR M W Fx (sExp m C)) := by
  refine ps_weak (ps_expr he hs) fun Z σ H ⟨B, env, ok, h⟩ => ?_
  refine EvR.flow ok h fun s e1 H1 v p q => ?_
  exact q σ H1 p.ok' p.st
theorem s_if {c : Expr} {a b : List Stmt} {mc : Tx} {ma mb : Sx} (hc : PT X c (TvR M W Fx (mc C))) (ha : PSs X a (SvR M W Fx (ma C))) (hb : PSs X b (SvR M W Fx (mb C))) : PS X (.If c a b pos) (SvR M W Fx (sIf mc ma mb C)) := by
  refine ps_weak (ps_if hc ha hb) fun Z σ H ⟨B, env, ok, h⟩ => ?_
  refine TvR.flow ok h fun k e1 H1 o1 st1 q => ?_
  cases k with
  | true => rw [if_pos rfl] at q ⊢; exact ⟨B, e1, o1, q⟩
  | false => rw [if_neg (by simp)] at q ⊢; exact ⟨B, e1, o1, q⟩
/-- a name gets the value of an expression: t is the rule's own reading -/
theorem asg_read {te : TE} {m : Ex} {i : Nat} {own : Bool} (hf : ¬ Fx i) (ht : ∀ σ H Q, EvR M W Fx (m C) σ H Q → te σ H Q) : ∀ Z σ H, SvR M W Fx (sAsg i m own C) Z σ H → tAsg te (gName i) Z σ H := fun Z σ H ⟨B, env, ok, h⟩ => by
  refine ht σ H _ (EvR.flow ok h fun s e1 H1 v p q => ?_)
  obtain ⟨f, hf', q⟩ := orNo_run.mp q
  obtain ⟨s', hs, rfl⟩ := Option.map_eq_some_iff.mp hf'
  obtain ⟨o2, s2⟩ := asgn hf p hs
  exact q _ H1 o2 s2
theorem s_asg {e : Expr} {m : Ex} {i : Nat} {x : Str} {own : Bool} {p : Pos} (hN : X.N.Nodup) (hi : X.N[i]? = some x) (hx : Loc X.env.scope x) (hfn : X.fn x = true ∨ X.env.scope.names.lookup x = some .local) (hf : ¬ Fx i)
    (hs : swapsWith e (some (.Name x p)) pos.line X.env = pure false) (he : PE X e (EvR M W Fx (m C))) : PS X (.Assign [.Name x p] e pos) (SvR M W Fx (sAsg i m own C)) :=
  ps_weak (ps_set hN hi hx he hs hfn) (asg_read hf fun _ _ _ h => h)

/-! ### while -/
theorem s_while {c : Expr} {b : List Stmt} {mc : Tx} {mb : Sx} (hp : PassesOwn (model X.prog X.w) X.A X.env X.xe) (hc : PT X c (TvR M W Fx (mc C))) (hb : PSs X b (SvR M W Fx (mb C))) : PS X (.While c b [] pos) (SvR M W Fx (sWhile mc mb C)) := by
  refine ps_weak (ps_while hp hc hb) fun Z σ H ⟨B, env, ok, h⟩ => ?_
  have h : FRun M W B Fx σ env H Z (whileL (mc C) (mb C) C.fuel env) := h
  refine ⟨fun n σ' H' => ∃ B' e', EnvOk M.K B' H' σ' e' ∧ FRun M W B' Fx σ' e' H' Z (whileL (mc C) (mb C) n e'), ⟨C.fuel, B, env, ok, h⟩, ?_⟩
  rintro n σ' H' ⟨B', e', ok', h⟩
  cases n with
  | zero => exact h.elim
  | succ n =>
    refine TvR.flow (Z := Z) ok' h fun k e1 H1 o1 st1 q => ?_
    cases k with
    | false => rw [if_neg (by simp)] at q ⊢; exact q σ' H1 o1 Step.refl
    | true =>
      rw [if_pos rfl] at q ⊢
      refine ⟨fun σ2 H2 => ∃ B' e', EnvOk M.K B' H2 σ2 e' ∧ FRun M W B' Fx σ2 e' H2 Z (whileL (mc C) (mb C) n e'), fun σ2 H2 h => ⟨n, Nat.lt_succ_self n, h⟩, B', e1, o1, ?_⟩
      cases e : mb C e1 with
      | next e2 => rw [e] at q; exact fun σ2 H2 o2 s2 => ⟨B', e2, o2, FRun.step s2 q⟩
      | cont e2 => rw [e] at q; exact fun σ2 H2 o2 s2 => ⟨B', e2, o2, FRun.step s2 q⟩
      | brk e2 => rw [e] at q; exact q
      | ret s e2 => rw [e] at q; exact q
      | exc c ds e2 => rw [e] at q; exact q
      | no => rw [e] at q; exact q

/-! ### targets -/
mutual
def mtN : MT → List Nat
  | .nm i => [i]
  | .tp ts => mtNs ts
def mtNs : List MT → List Nat
  | [] => []
  | t :: ts => mtN t ++ mtNs ts
end
/-- the reading of a target -/
def GvR (M : Mdl) (Fx : Nat → Prop) (t : MT) : TG := fun v σ H Q => ∃ B env d e1, EnvOk M.K B H σ env ∧ Rep M.K (Avd B σ env) H d v ∧ bindT t d env = some e1 ∧
  ∀ σ1, EnvOk M.K B H σ1 e1 → Step Fx σ env H σ1 e1 H → (∀ j, j ∉ mtN t → σ1[j]? = σ[j]?) → σ1.length = σ.length → Q σ1 H
def GsR (M : Mdl) (Fx : Nat → Prop) (ts : List MT) : TGs := fun vs σ H Q => ∃ B env ds e1, EnvOk M.K B H σ env ∧ RepL M.K (Avd B σ env) H ds vs ∧ bindTs ts ds env = some e1 ∧
  ∀ σ1, EnvOk M.K B H σ1 e1 → Step Fx σ env H σ1 e1 H → (∀ j, j ∉ mtNs ts → σ1[j]? = σ[j]?) → σ1.length = σ.length → Q σ1 H
theorem pg_weak {e : Expr} {t t' : TG} (h : PG X e t) (w : ∀ v σ H Q, t' v σ H Q → t v σ H Q) : PG X e t' := ⟨fun pins s σ H v u Q I r q => h.run pins s σ H v u Q I r (w v σ H Q q)⟩
theorem pgs_weak {e : List Expr} {t t' : TGs} (h : PGs X e t) (w : ∀ v σ H Q, t' v σ H Q → t v σ H Q) : PGs X e t' := ⟨fun pins s σ H v u Q I r q => h.run pins s σ H v u Q I r (w v σ H Q q)⟩
theorem g_nm {i : Nat} {x : Str} (hN : X.N.Nodup) (hi : X.N[i]? = some x) (hx : Loc X.env.scope x) (hf : X.fn x = true ∨ X.env.scope.names.lookup x = some .local) (hF : ¬ Fx i) : PG X (.Name x pos) (GvR M Fx (.nm i)) := by
  refine pg_weak (pg_name hN hi hx hf) fun v σ H Q ⟨B, env, d, e1, ok, r, hb, h⟩ => ?_
  have hb : some (env.set i (some (.val d))) = some e1 := by rw [← hb, bindT]
  cases hb
  have p : Post M.K B Fx σ env H env H (.val d) v := Post.val ok Step.refl r
  obtain ⟨o2, s2⟩ := asgn (own := false) hF p rfl
  refine h _ o2 s2 (fun j hj => List.getElem?_set_ne fun z => hj ?_) (List.length_set ..)
  rw [mtN, z]; exact List.mem_singleton.mpr rfl
theorem gs_nil : PGs X [] (GsR M Fx []) := by
  refine pgs_weak pgs_nil fun vs σ H Q ⟨B, env, ds, e1, ok, r, hb, h⟩ => ?_
  cases ds with
  | cons d ds => simp [bindTs] at hb
  | nil =>
    rw [bindTs] at hb; cases hb
    exact ⟨r, h σ ok Step.refl (fun _ _ => rfl) rfl⟩
theorem gs_cons {e : Expr} {es : List Expr} {t : MT} {ts : List MT} (h1 : PG X e (GvR M Fx t)) (h2 : PGs X es (GsR M Fx ts)) (hs : (assignEach (e :: es) X.env).map (·.2) = PySem.assign e X.env :: (assignEach es X.env).map (·.2)) : PGs X (e :: es) (GsR M Fx (t :: ts)) := by
  refine pgs_weak (pgs_cons h1 h2 hs) fun vs σ H Q ⟨B, env, ds, e1, ok, r, hb, h⟩ => ?_
  cases ds with
  | nil => simp [bindTs] at hb
  | cons d ds =>
    rw [bindTs] at hb
    obtain ⟨e2, h2, h3⟩ := Option.bind_eq_some_iff.mp hb
    obtain ⟨v, vr, rfl, r1, r2⟩ := r
    refine ⟨v, vr, rfl, B, env, d, e2, ok, r1, h2, fun σ1 o1 s1 n1 l1 => ?_⟩
    refine ⟨B, e2, ds, e1, o1, r2.step ok s1, h3, fun σ2 o2 s2 n2 l2 => h σ2 o2 (s1.trans s2) (fun j hj => ?_) (l2.trans l1)⟩
    rw [mtNs, List.mem_append] at hj
    exact (n2 j fun z => hj (.inr z)).trans (n1 j fun z => hj (.inl z))
theorem bindTs_len : ∀ {ts : List MT} {ds : List D} {e e' : Env}, bindTs ts ds e = some e' → ds.length = ts.length
  | [], [], _, _, _ => rfl
  | [], _ :: _, _, _, h => by simp [bindTs] at h
  | _ :: _, [], _, _, h => by simp [bindTs] at h
  | t :: ts, d :: ds, e, e', h => by
    rw [bindTs] at h
    obtain ⟨e2, _, h3⟩ := Option.bind_eq_some_iff.mp h
    simp [bindTs_len h3]
theorem g_tp {es : List Expr} {k : Nat} {ts : List MT} (hK : X.K = M.K) (hc : X.calm = true) (h : PGs X es (GsR M Fx ts)) (hn : (assignEach es X.env).length = ts.length) (hst : (assignEach es X.env).findIdx? (·.1) = none) : PG X (.Tuple es k pos) (GvR M Fx (.tp ts)) := by
  have h1 := pg_tup (k := k) (pos := pos) hc h hn hst
  have h2 := pg_lst (k := k) (pos := pos) hc h hn hst
  refine ⟨fun pins s σ H v u Q I r q => ?_⟩
  obtain ⟨B, env, d, e1, ok, rd, hb, q⟩ := q
  cases d with
  | tuple ds =>
    rw [bindT] at hb
    obtain ⟨a, vs, rfl, e, rr⟩ := rd
    refine h1.run pins s σ H _ u Q I r ⟨a, vs, rfl, by rw [hK]; exact e, ?_, B, env, ds, e1, ok, rr, hb, q⟩
    rw [← rr.length]; exact bindTs_len hb
  | list ds =>
    rw [bindT] at hb
    obtain ⟨a, vs, rfl, _, e, rr⟩ := rd
    refine h2.run pins s σ H _ u Q I r ⟨a, vs, rfl, SqL_of e, ?_, B, env, ds, e1, ok, rr, hb, q⟩
    rw [← rr.length]; exact bindTs_len hb
  | none => simp [bindT] at hb
  | bool _ => simp [bindT] at hb
  | int _ => simp [bindT] at hb
  | str _ => simp [bindT] at hb
  | dict _ => simp [bindT] at hb

/-- a, b = e -/
theorem s_asgT {e tg : Expr} {m : Ex} {t : MT} (hg : PG X tg (GvR M Fx t)) (he : PE X e (EvR M W Fx (m C))) (hs : swapsWithSole [tg] e pos.line X.env = pure false) (hw : swappedStores [tg] e X.env = pure none) (h1 : (assignEach [tg] X.env).map (·.2) = [PySem.assign tg X.env]) :
    PS X (.Assign [tg] e pos) (SvR M W Fx (sAsgT t m C)) := by
  refine ps_weak (ps_asg he hg hs hw h1) fun Z σ H ⟨B, env, ok, h⟩ => ?_
  refine EvR.flowV ok h fun d e1 H1 v o1 s1 r1 q => ?_
  obtain ⟨f, hf, q⟩ := orNo_run.mp q
  obtain ⟨e2, hb, rfl⟩ := Option.map_eq_some_iff.mp hf
  exact ⟨B, e1, d, e2, o1, r1, hb, fun σ1 o2 s2 _ _ => q σ1 H1 o2 s2⟩

/-! ### what is walked -/
/-- later: all of the data stands; B' may have grown by new places -/
structure Later (K : Frag) (B : Addr → Prop) (σ : St) (env : Env) (H : Hp) (σ' : St) (env' : Env) (H' : Hp) (B' : Addr → Prop) : Prop where
  ok : EnvOk K B' H' σ' env'
  bs : ∀ a, B' a → B a ∨ H a = none
  st : Step Top σ env H σ' env' H'
structure WkD (K : Frag) (B : Addr → Prop) (σ : St) (env : Env) (H : Hp) (J : It) (ds : List D) : Prop where
  go : ∀ σ' e' H' B', Later K B σ env H σ' e' H' B' → ∀ i, i < ds.length → J.go i H'
  stop : ∀ σ' e' H' B', Later K B σ env H σ' e' H' B' → J.stop ds.length H'
  yld : ∀ σ' e' H' B', Later K B σ env H σ' e' H' B' → ∀ i x H'', i < ds.length → J.yld i H' x H'' → (∀ a o, H' a = some o → H'' a = some o) ∧ ∃ d, ds[i]? = some d ∧ Rep K (Avd B' σ' e') H'' d x
theorem Later.lst {K : Frag} {B B' : Addr → Prop} {σ σ' : St} {env e' : Env} {H H' : Hp} (ok : EnvOk K B H σ env) (l : Later K B σ env H σ' e' H' B') {a : Addr} {vs : List V} (e : H a = some (.lst vs)) (n : ¬ Avd B σ env a) : H' a = some (.lst vs) ∧ ¬ Avd B' σ' e' a := by
  refine ⟨l.st.keep a _ e fun q => n (.inr q), fun q => ?_⟩
  rcases q with q | q
  · rcases l.bs a q with q | q
    · exact n (.inl q)
    · rw [e] at q; cases q
  · rcases l.st.own a q with q | q
    · exact n (.inr q)
    · rw [e] at q; cases q
theorem Later.rep {K : Frag} {B B' : Addr → Prop} {σ σ' : St} {env e' : Env} {H H' : Hp} (ok : EnvOk K B H σ env) (l : Later K B σ env H σ' e' H' B') {d : D} {v : V} (r : Rep K (Avd B σ env) H d v) : Rep K (Avd B' σ' e') H' d v :=
  Rep.stab (fun _ _ e n => l.lst ok e n) (ok.nol l.st) d v r
theorem Later.repL {K : Frag} {B B' : Addr → Prop} {σ σ' : St} {env e' : Env} {H H' : Hp} (ok : EnvOk K B H σ env) (l : Later K B σ env H σ' e' H' B') {d : List D} {v : List V} (r : RepL K (Avd B σ env) H d v) : RepL K (Avd B' σ' e') H' d v :=
  RepL.stab (fun _ _ e n => l.lst ok e n) (ok.nol l.st) d v r
theorem ext_T {K : Frag} {H H' : Hp} (h : ∀ a o, H a = some o → H' a = some o) {a : Addr} {vs : List V} (q : SqT K H a vs) : SqT K H' a vs := by
  rcases q with (q | ⟨o, q⟩) | q
  · exact .inl (.inl (h _ _ q))
  · exact .inl (.inr ⟨o, h _ _ q⟩)
  · exact .inr q
theorem EnvOk.ext {K : Frag} {B : Addr → Prop} {σ : St} {env : Env} {H H' : Hp} (ok : EnvOk K B H σ env) (h : ∀ a o, H a = some o → H' a = some o) : EnvOk K B H' σ env where
  len := ok.len
  rep := fun i s e => by
    obtain ⟨v, e1, r⟩ := ok.rep i s e
    refine ⟨v, e1, SRep.mono (fun _ _ e n => ⟨h _ _ e, n⟩) (fun _ _ _ e => h _ _ e) (fun _ _ e _ => h _ _ e) (fun a vs e => ?_) r⟩
    rcases e with ⟨o, e⟩ | e
    · exact .inl ⟨o, h _ _ e⟩
    · exact .inr e
  uniq := ok.uniq
  bd := fun a b => by
    cases e : H a with
    | none => exact absurd e (ok.bd a b)
    | some o => rw [h _ _ e]; intro z; cases z
  bo := ok.bo
theorem Step.ext {Fx : Nat → Prop} {σ : St} {env : Env} {H H' : Hp} (h : ∀ a o, H a = some o → H' a = some o) : Step Fx σ env H σ env H' := ⟨fun a o e _ => h a o e, fun _ q => .inl q, fun _ _ => rfl⟩
theorem Rep.ext {K : Frag} {Av : Addr → Prop} {H H' : Hp} (h : ∀ a o, H a = some o → H' a = some o) {d : D} {v : V} (r : Rep K Av H d v) : Rep K Av H' d v :=
  Rep.stab (fun _ _ e n => ⟨h _ _ e, n⟩) (fun _ _ _ e => h _ _ e) d v r

theorem wk_list {K : Frag} {B : Addr → Prop} {σ : St} {env : Env} {H : Hp} {a : Addr} {ds : List D} {vs : List V} (ok : EnvOk K B H σ env) (e : H a = some (.lst vs)) (n : ¬ Avd B σ env a) (r : RepL K (Avd B σ env) H ds vs) : WkD K B σ env H (Itl K a) ds where
  go := fun σ' e' H' B' l i hi => by
    obtain ⟨d, hd⟩ : ∃ d, ds[i]? = some d := ⟨ds[i], by simp [hi]⟩
    obtain ⟨v, hv, _⟩ := r.get hd
    exact ⟨vs, v, SqL_of (l.lst ok e n).1, hv⟩
  stop := fun σ' e' H' B' l => ⟨vs, SqL_of (l.lst ok e n).1, by rw [r.length]; exact Nat.le_refl _⟩
  yld := fun σ' e' H' B' l i x H'' hi y => by
    obtain ⟨rfl, y⟩ := y
    refine ⟨fun _ _ h => h, ?_⟩
    have := y vs (SqL_of (l.lst ok e n).1)
    obtain ⟨d, hd, rd⟩ := (l.repL ok r).getV this
    exact ⟨d, hd, rd⟩
theorem wk_tup {K : Frag} {B : Addr → Prop} {σ : St} {env : Env} {H : Hp} {a : Addr} {ds : List D} {vs : List V} (ok : EnvOk K B H σ env) (e : SqT K H a vs) (r : RepL K (Avd B σ env) H ds vs) : WkD K B σ env H (Itt K a) ds where
  go := fun σ' e' H' B' l i hi => by
    obtain ⟨d, hd⟩ : ∃ d, ds[i]? = some d := ⟨ds[i], by simp [hi]⟩
    obtain ⟨v, hv, _⟩ := r.get hd
    exact ⟨vs, v, ok.sqT l.st e, hv⟩
  stop := fun σ' e' H' B' l => ⟨vs, ok.sqT l.st e, by rw [r.length]; exact Nat.le_refl _⟩
  yld := fun σ' e' H' B' l i x H'' hi y => by
    obtain ⟨rfl, y⟩ := y
    refine ⟨fun _ _ h => h, ?_⟩
    have := y vs (ok.sqT l.st e)
    obtain ⟨d, hd, rd⟩ := (l.repL ok r).getV this
    exact ⟨d, hd, rd⟩
theorem wk_str {K : Frag} {B : Addr → Prop} {σ : St} {env : Env} {H : Hp} {z : Str} : WkD K B σ env H (Its z) ((cs z).map fun c => .str (S [c])) where
  go := fun σ' e' H' B' l i hi => by
    have : (cs z).length = z.cps.size := by simp [cs]
    rw [List.length_map] at hi
    show i < z.cps.size
    omega
  stop := fun σ' e' H' B' l => by
    have : (cs z).length = z.cps.size := by simp [cs]
    rw [List.length_map]
    show z.cps.size ≤ _
    omega
  yld := fun σ' e' H' B' l i x H'' hi y => by
    obtain ⟨rfl, c, hc, rfl⟩ := y
    refine ⟨fun _ _ h => h, .str (S [c]), ?_, rfl⟩
    have : (cs z)[i]? = some c := by
      show z.cps.toList[i]? = some c
      rw [Array.getElem?_toList]; exact hc
    rw [List.getElem?_map, this]; rfl
theorem rngL_get {lo : Int} {n i : Nat} (h : i < n) : (rngL lo n)[i]? = some (.int (lo + (i : Nat))) := by
  unfold rngL
  rw [List.getElem?_map, List.getElem?_range h]; rfl
theorem wk_rng {K : Frag} {B : Addr → Prop} {σ : St} {env : Env} {H : Hp} {lo : Int} {n : Nat} : WkD K B σ env H (Itr lo n) (rngL lo n) where
  go := fun σ' e' H' B' l i hi => by
    unfold rngL at hi
    show i < n
    simpa using hi
  stop := fun σ' e' H' B' l => by
    show n ≤ (rngL lo n).length
    simp [rngL]
  yld := fun σ' e' H' B' l i x H'' hi y => by
    obtain ⟨rfl, rfl⟩ := y
    unfold rngL at hi
    exact ⟨fun _ _ h => h, _, rngL_get (by simpa using hi), rfl⟩
theorem Rep.pair {K : Frag} {Av : Addr → Prop} {H : Hp} {T : Addr} {x y : D} {v w : V} (hT : H T = none) (h1 : Rep K Av H x v) (h2 : Rep K Av H y w) : Rep K Av (upd H T (.tup [v, w])) (.tuple [x, y]) (.ref T) :=
  ⟨T, [v, w], rfl, SqT.of upd_same, .cons (h1.new hT) (.cons (h2.new hT) .nil)⟩
theorem ext_upd {H : Hp} {T : Addr} {o : HO} (hT : H T = none) : ∀ a u, H a = some u → upd H T o a = some u := fun a u e => by rw [upd_ne (ne_of_none e hT)]; exact e
theorem zip_get {xs ys : List D} {i : Nat} {x y : D} (h1 : xs[i]? = some x) (h2 : ys[i]? = some y) : (List.zipWith (fun x y => PyData.tuple [x, y]) xs ys)[i]? = some (.tuple [x, y]) := by
  rw [List.getElem?_zipWith, h1, h2]
theorem wk_zipL {K : Frag} {B : Addr → Prop} {σ : St} {env : Env} {H : Hp} {a b : Addr} {xs ys : List D} {vs ws : List V} (ok : EnvOk K B H σ env) (e : H a = some (.lst vs)) (n : ¬ Avd B σ env a) (r : RepL K (Avd B σ env) H xs vs)
    (e2 : H b = some (.lst ws)) (n2 : ¬ Avd B σ env b) (r2 : RepL K (Avd B σ env) H ys ws) : WkD K B σ env H (Itz K a b) (List.zipWith (fun x y => .tuple [x, y]) xs ys) := by
  have wk : Walk (Itz K a b) (min vs.length ws.length) (fun H => SqL K H a vs ∧ SqL K H b ws) (YPair (fun i => vs[i]?) (fun i => ws[i]?)) := walk_zip rfl
  have hl : (List.zipWith (fun x y => PyData.tuple [x, y]) xs ys).length = min vs.length ws.length := by rw [List.length_zipWith, r.length, r2.length]
  have g : ∀ {σ' e' H' B'}, Later K B σ env H σ' e' H' B' → SqL K H' a vs ∧ SqL K H' b ws := fun l => ⟨SqL_of (l.lst ok e n).1, SqL_of (l.lst ok e2 n2).1⟩
  refine ⟨fun σ' e' H' B' l i hi => wk.goes i H' (by omega) (g l), fun σ' e' H' B' l => by rw [hl]; exact wk.stops H' (g l), fun σ' e' H' B' l i x H'' hi y => ?_⟩
  obtain ⟨T, v, w, rfl, hT, rfl, h1, h2⟩ := wk.yields i H' x H'' (by omega) (g l) y
  obtain ⟨d1, hd1, rd1⟩ := (l.repL ok r).getV h1
  obtain ⟨d2, hd2, rd2⟩ := (l.repL ok r2).getV h2
  exact ⟨ext_upd hT, _, zip_get hd1 hd2, Rep.pair hT rd1 rd2⟩
theorem wk_zipT {K : Frag} {B : Addr → Prop} {σ : St} {env : Env} {H : Hp} {a b : Addr} {xs ys : List D} {vs ws : List V} (ok : EnvOk K B H σ env) (e : SqT K H a vs) (r : RepL K (Avd B σ env) H xs vs)
    (e2 : SqT K H b ws) (r2 : RepL K (Avd B σ env) H ys ws) : WkD K B σ env H (RZ.ItzT K a b) (List.zipWith (fun x y => .tuple [x, y]) xs ys) := by
  have hl : (List.zipWith (fun x y => PyData.tuple [x, y]) xs ys).length = min vs.length ws.length := by rw [List.length_zipWith, r.length, r2.length]
  have g : ∀ {σ' e' H' B'}, Later K B σ env H σ' e' H' B' → SqT K H' a vs ∧ SqT K H' b ws := fun l => ⟨ok.sqT l.st e, ok.sqT l.st e2⟩
  refine ⟨fun σ' e' H' B' l i hi => ?_, fun σ' e' H' B' l => ⟨vs, ws, (g l).1, (g l).2, by omega⟩, fun σ' e' H' B' l i x H'' hi y => ?_⟩
  · exact ⟨vs, ws, vs[i]'(by omega), ws[i]'(by omega), (g l).1, (g l).2, by simp, by simp⟩
  · obtain ⟨T, v, w, rfl, hT, rfl, h1, h2⟩ := y
    obtain ⟨d1, hd1, rd1⟩ := (l.repL ok r).getV (h1 vs (g l).1)
    obtain ⟨d2, hd2, rd2⟩ := (l.repL ok r2).getV (h2 ws (g l).2)
    exact ⟨ext_upd hT, _, zip_get hd1 hd2, Rep.pair hT rd1 rd2⟩
theorem enm_get : ∀ {xs : List D} {k i : Nat} {x : D}, xs[i]? = some x → (enmL k xs)[i]? = some (.tuple [.int ((k + i : Nat) : Int), x])
  | [], _, _, _, h => by simp at h
  | y :: ys, k, 0, x, h => by simp at h; subst h; rfl
  | y :: ys, k, i + 1, x, h => by
    show (enmL (k + 1) ys)[i]? = _
    rw [enm_get (k := k + 1) (i := i) (by simpa using h)]
    rw [show k + 1 + i = k + (i + 1) by omega]
theorem enm_len : ∀ {xs : List D} {k : Nat}, (enmL k xs).length = xs.length
  | [], _ => rfl
  | _ :: ys, k => congrArg (· + 1) (enm_len (xs := ys) (k := k + 1))
theorem wk_enm {K : Frag} {B : Addr → Prop} {σ : St} {env : Env} {H : Hp} {a : Addr} {xs : List D} {vs : List V} (ok : EnvOk K B H σ env) (e : H a = some (.lst vs)) (n : ¬ Avd B σ env a) (r : RepL K (Avd B σ env) H xs vs) : WkD K B σ env H (Ite K a) (enmL 0 xs) := by
  have g : ∀ {σ' e' H' B'}, Later K B σ env H σ' e' H' B' → SqL K H' a vs := fun l => SqL_of (l.lst ok e n).1
  have hl : (enmL 0 xs).length = vs.length := by rw [enm_len, r.length]
  refine ⟨fun σ' e' H' B' l i hi => ⟨vs, vs[i]'(by omega), g l, by simp⟩, fun σ' e' H' B' l => ⟨vs, g l, by omega⟩, fun σ' e' H' B' l i x H'' hi y => ?_⟩
  obtain ⟨T, v, rfl, hT, rfl, h1⟩ := y
  obtain ⟨d1, hd1, rd1⟩ := (l.repL ok r).getV (h1 vs (g l))
  refine ⟨ext_upd hT, _, enm_get hd1, Rep.pair hT ?_ rd1⟩
  rw [Nat.zero_add]; rfl

theorem wk_enmT {K : Frag} {B : Addr → Prop} {σ : St} {env : Env} {H : Hp} {a : Addr} {xs : List D} {vs : List V} (ok : EnvOk K B H σ env) (e : SqT K H a vs) (r : RepL K (Avd B σ env) H xs vs) : WkD K B σ env H (L2e.IteT K a) (enmL 0 xs) := by
  have g : ∀ {σ' e' H' B'}, Later K B σ env H σ' e' H' B' → SqT K H' a vs := fun l => ok.sqT l.st e
  have hl : (enmL 0 xs).length = vs.length := by rw [enm_len, r.length]
  refine ⟨fun σ' e' H' B' l i hi => ⟨vs, vs[i]'(by omega), g l, by simp⟩, fun σ' e' H' B' l => ⟨vs, g l, by omega⟩, fun σ' e' H' B' l i x H'' hi y => ?_⟩
  obtain ⟨T, v, rfl, hT, rfl, h1⟩ := y
  obtain ⟨d1, hd1, rd1⟩ := (l.repL ok r).getV (h1 vs (g l))
  refine ⟨ext_upd hT, _, enm_get hd1, Rep.pair hT ?_ rd1⟩
  rw [Nat.zero_add]; rfl

/-- the reading of what is walked -/
def IvR (M : Mdl) (W : WX) (Fx : Nat → Prop) (r : Env → R (List D)) : TI := fun σ H R => ∃ B env, EnvOk M.K B H σ env ∧
  RRun (r env) (fun ds e1 => ∀ H1 J, EnvOk M.K B H1 σ e1 → Step Fx σ env H σ e1 H1 → WkD M.K B σ e1 H1 J ds → R J H1) (XQ M W B Fx σ env H)

theorem EvR.walk {m : Env → R Slot} {f : D → Option (List D)} {σ : St} {H : Hp} {B : Addr → Prop} {env : Env} {Q : VK} {Qo : List D → Env → Prop} (ok : EnvOk M.K B H σ env)
    (h : RRun ((Ev.val (m env)).bind fun x e => R.opt (f x) e) Qo (XQ M W B Fx σ env H))
    (k : ∀ d e1 H1 v ds, (∃ s, m env = .ok s e1 ∧ s.dat = some d) → EnvOk M.K B H1 σ e1 → Step Fx σ env H σ e1 H1 → Rep M.K (Avd B σ e1) H1 d v → f d = some ds → Qo ds e1 → Q v H1) : EvR M W Fx m σ H Q := by
  cases hm : m env with
  | no => rw [hm] at h; exact h.elim
  | exc c ds e =>
    rw [hm] at h
    exact ⟨B, env, ok, by rw [hm]; exact h⟩
  | ok s e1 =>
    refine ⟨B, env, ok, ?_⟩
    rw [hm] at h ⊢
    intro H1 v p
    have h : RRun ((R.opt s.dat e1).bind fun x e => R.opt (f x) e) Qo (XQ M W B Fx σ env H) := h
    rw [RRun.bind, RRun.opt] at h
    obtain ⟨d, hd, h⟩ := h
    obtain ⟨ds, hds, q⟩ := RRun.opt.mp h
    exact k d e1 H1 v ds ⟨s, hm, hd⟩ p.ok' p.st (p.dat hd) hds q

theorem i_it {tg e : Expr} {m : Ex} (hK : X.K = M.K) (he : PE X e (EvR M W Fx (m C))) : PI X tg e (IvR M W Fx (Ev.iIt m C)) := by
  refine ⟨fun pins s σ H R0 I q => ?_⟩
  obtain ⟨B, env, ok, h⟩ := q
  have h : RRun ((Ev.val (m C env)).bind fun x e => R.opt (itemsD x) e) _ _ := h
  cases hm : m C env with
  | no => rw [hm] at h; exact h.elim
  | exc c ds e' =>
    rw [hm] at h
    exact (pi_list (tg := tg) he).run pins s σ H R0 I ⟨B, env, ok, by rw [hm]; exact h⟩
  | ok sl e1 =>
    have h0 := h
    rw [hm] at h
    have h : RRun ((R.opt sl.dat e1).bind fun x e => R.opt (itemsD x) e) _ _ := h
    rw [RRun.bind, RRun.opt] at h
    obtain ⟨d, hd, h⟩ := h
    obtain ⟨ds, hds, _⟩ := RRun.opt.mp h
    cases d with
    | list xs =>
      cases hds
      refine (pi_list (tg := tg) he).run pins s σ H R0 I (EvR.walk ok h0 fun d e2 H1 v ds ⟨s', hs, hsd⟩ o1 s1 r1 hf q => ?_)
      rw [hm] at hs; cases hs; rw [hd] at hsd; cases hsd; cases hf
      obtain ⟨a, vs, rfl, na, e, r⟩ := r1
      exact ⟨a, rfl, ⟨vs, SqL_of e⟩, by rw [hK]; exact q H1 _ o1 s1 (wk_list o1 e na r)⟩
    | tuple xs =>
      cases hds
      refine (pi_tup (tg := tg) he).run pins s σ H R0 I (EvR.walk ok h0 fun d e2 H1 v ds ⟨s', hs, hsd⟩ o1 s1 r1 hf q => ?_)
      rw [hm] at hs; cases hs; rw [hd] at hsd; cases hsd; cases hf
      obtain ⟨a, vs, rfl, e, r⟩ := r1
      exact ⟨a, rfl, ⟨vs, by rw [hK]; exact e⟩, by rw [hK]; exact q H1 _ o1 s1 (wk_tup o1 e r)⟩
    | str z =>
      refine (pi_str (tg := tg) he).run pins s σ H R0 I (EvR.walk ok h0 fun d e2 H1 v ds ⟨s', hs, hsd⟩ o1 s1 r1 hf q => ?_)
      rw [hm] at hs; cases hs; rw [hd] at hsd; cases hsd
      obtain ⟨hz, rfl⟩ := if_some hf
      cases r1
      exact ⟨z, rfl, q H1 _ o1 s1 wk_str⟩
    | none => cases hds
    | bool _ => cases hds
    | int _ => cases hds
    | dict _ => cases hds

theorem rngOk_c {i : Int} (h : rngOk i = true) : -(2 ^ 62) ≤ i ∧ i < 2 ^ 62 := by
  unfold rngOk at h
  simpa using h
theorem rng1_c {x : D} {ds : List D} (h : rangeD [x] = some ds) : ∃ j : Int, x = .int j ∧ rngOk j = true ∧ ds = rngL 0 j.toNat := by
  unfold rangeD at h
  split at h
  · rename_i e; cases e
    obtain ⟨hz, rfl⟩ := if_some h
    exact ⟨_, rfl, hz, rfl⟩
  · rename_i e; cases e
  · cases h
theorem rng2_c {x y : D} {ds : List D} (h : rangeD [x, y] = some ds) : ∃ i j : Int, x = .int i ∧ y = .int j ∧ rngOk i = true ∧ rngOk j = true ∧ ds = rngL i (j - i).toNat := by
  unfold rangeD at h
  split at h
  · rename_i e; cases e
  · rename_i e; cases e
    obtain ⟨hz, rfl⟩ := if_some h
    simp only [Bool.and_eq_true] at hz
    exact ⟨_, _, rfl, rfl, hz.1, hz.2, rfl⟩
  · cases h
theorem i_rng1 {tg a : Expr} {ma : Ex} {p : Pos} (hg : Gl X "range") (hm : X.mg "range" = none) (ha : PE X a (EvR M W Fx (ma C))) (hs : starEach [a] X.env = [(false, eval a X.env)]) :
    PI X tg (.Call (.Name "range" p) [a] [] pos) (IvR M W Fx (Ev.iRng1 ma C)) := by
  refine pi_weak (pi_range1 hg hm (pa_cons ha pa_nil hs) hs) fun σ H R0 ⟨B, env, ok, h⟩ => ?_
  refine EvR.val ok h fun d e1 H1 v o1 s1 r1 q => ?_
  obtain ⟨xs, hx, q⟩ := RRun.opt.mp q
  obtain ⟨j, rfl, hz, rfl⟩ := rng1_c hx
  cases r1
  obtain ⟨b1, b2⟩ := rngOk_c hz
  exact ⟨j, rfl, b1, b2, q H1 _ o1 s1 wk_rng⟩
theorem i_rng2 {tg a b : Expr} {ma mb : Ex} {p : Pos} (hg : Gl X "range") (hm : X.mg "range" = none) (ha : PE X a (EvR M W Fx (ma C))) (hb : PE X b (EvR M W Fx (mb C)))
    (hs : starEach [a, b] X.env = [(false, eval a X.env), (false, eval b X.env)]) (hs2 : starEach [b] X.env = [(false, eval b X.env)]) :
    PI X tg (.Call (.Name "range" p) [a, b] [] pos) (IvR M W Fx (Ev.iRng2 ma mb C)) := by
  refine pi_weak (pi_range2 hg hm (pa_cons ha (pa_cons hb pa_nil hs2) (by rw [hs, hs2])) hs hs2) fun σ H R0 ⟨B, env, ok, h⟩ => ?_
  refine EvR.val ok h fun d e1 H1 v o1 s1 r1 q => ?_
  refine EvR.val o1 q fun d2 e2 H2 w o2 s2 r2 q => ?_
  obtain ⟨xs, hx, q⟩ := RRun.opt.mp q
  obtain ⟨i, j, rfl, rfl, hz, hz2, rfl⟩ := rng2_c hx
  cases r1; cases r2
  obtain ⟨b1, b2⟩ := rngOk_c hz
  obtain ⟨b3, b4⟩ := rngOk_c hz2
  exact ⟨i, j, rfl, ⟨b1, b2, b3, b4⟩, q H2 _ o2 (s1.trans s2) wk_rng⟩
theorem i_zip {a b : Expr} {ma mb : Ex} {p tp : Pos} {elts : List Expr} {kk : Nat} (hK : X.K = M.K) (hg : Gl X "zip") (hm : X.mg "zip" = none) (ha : PE X a (EvR M W Fx (ma C))) (hb : PE X b (EvR M W Fx (mb C)))
    (hs : starEach [a, b] X.env = (false, eval a X.env) :: starEach [b] X.env) (hs2 : starEach [b] X.env = [(false, eval b X.env)]) :
    PI X (.Tuple elts kk tp) (.Call (.Name "zip" p) [a, b] [] pos) (IvR M W Fx (Ev.iZip ma mb C)) := by
  refine pi_weak (RZ.pi_zipA hg hm (pa_cons ha (pa_cons hb pa_nil hs2) hs) hs (by rw [hs2]; rfl)) fun σ H R0 ⟨B, env, ok, h⟩ => ?_
  refine EvR.val ok h fun d e1 H1 v o1 s1 r1 q => ?_
  refine EvR.val o1 q fun d2 e2 H2 w o2 s2 r2 q => ?_
  obtain ⟨xs, hx, q⟩ := RRun.opt.mp q
  have r1 := r1.step o1 s2
  unfold zipD at hx
  split at hx
  · cases hx
    obtain ⟨a, vs, rfl, na, e, r⟩ := r1
    obtain ⟨b, ws, rfl, nb, e2, r'⟩ := r2
    exact ⟨a, b, vs, ws, rfl, .inl ⟨SqL_of e, SqL_of e2, by rw [hK]; exact q H2 _ o2 (s1.trans s2) (wk_zipL o2 e na r e2 nb r')⟩⟩
  · cases hx
    obtain ⟨a, vs, rfl, e, r⟩ := r1
    obtain ⟨b, ws, rfl, e2, r'⟩ := r2
    exact ⟨a, b, vs, ws, rfl, .inr ⟨by rw [hK]; exact e, by rw [hK]; exact e2, by rw [hK]; exact q H2 _ o2 (s1.trans s2) (wk_zipT o2 e r e2 r')⟩⟩
  · cases hx
theorem i_enm {a : Expr} {ma : Ex} {p tp : Pos} {elts : List Expr} {kk : Nat} (hK : X.K = M.K) (hg : Gl X "enumerate") (hm : X.mg "enumerate" = none) (ha : PE X a (EvR M W Fx (ma C))) (hs : starEach [a] X.env = [(false, eval a X.env)]) :
    PI X (.Tuple elts kk tp) (.Call (.Name "enumerate" p) [a] [] pos) (IvR M W Fx (Ev.iEnm ma C)) := by
  refine pi_weak (L2e.pi_enumA hg hm (pa_cons ha pa_nil hs) hs) fun σ H R0 ⟨B, env, ok, h⟩ => ?_
  refine EvR.val ok h fun d e1 H1 v o1 s1 r1 q => ?_
  obtain ⟨xs, hx, q⟩ := RRun.opt.mp q
  unfold enmD at hx
  split at hx
  · cases hx
    obtain ⟨a, vs, rfl, na, e, r⟩ := r1
    exact ⟨a, vs, rfl, .inl ⟨SqL_of e, by rw [hK]; exact q H1 _ o1 s1 (wk_enm o1 e na r)⟩⟩
  · cases hx
    obtain ⟨a, vs, rfl, e, r⟩ := r1
    exact ⟨a, vs, rfl, .inr ⟨by rw [hK]; exact e, by rw [hK]; exact q H1 _ o1 s1 (wk_enmT o1 e r)⟩⟩
  · cases hx

/-! ### for -/
theorem Step.top {Fx : Nat → Prop} {σ σ' : St} {env env' : Env} {H H' : Hp} (s : Step Fx σ env H σ' env' H') : Step Top σ env H σ' env' H' := ⟨s.keep, s.own, fun _ h => h.elim⟩
theorem s_for {tg it : Expr} {b : List Stmt} {t : MT} {mi : Ix} {mb : Sx} (hs : ∀ x, foldedSetIterable it X.env x = pure x) (hp : PassesOwn (model X.prog X.w) X.A X.env X.xe) (hc : X.calm = true) (hi : PI X tg it (IvR M W Fx (mi C))) (hg : PG X tg (GvR M Fx t)) (hb : PSs X b (SvR M W Fx (mb C))) :
    PS X (.For tg it b [] pos) (SvR M W Fx (sFor t mi mb C)) := by
  refine ps_weak (ps_for hp hc hi hg hb hs) fun Z σ H ⟨B, env, ok, h⟩ => ?_
  have h := flow_run.mp h
  refine ⟨B, env, ok, h.imp (fun ds e1 q H1 J o1 s1 wk => ?_) fun _ _ _ q => xq_of q⟩
  -- behind i turns: the rest of the items is still to come
  refine ⟨fun i m σ' H' => m = ds.length - i ∧ i ≤ ds.length ∧ ∃ e', EnvOk M.K B H' σ' e' ∧ Step Fx σ e1 H1 σ' e' H' ∧ FRun M W B Fx σ' e' H' Z (forL (forTurn C t mb) (ds.drop i) e'),
    ⟨_, rfl, Nat.zero_le _, e1, o1, Step.refl, FRun.step s1 q⟩, ?_⟩
  rintro i m σ' H' ⟨rfl, hi, e', o', s', q⟩
  have lat : Later M.K B σ e1 H1 σ' e' H' B := ⟨o', fun _ b => .inl b, s'.top⟩
  by_cases hlt : i < ds.length
  · refine .inr ⟨wk.go σ' e' H' B lat i hlt, fun σ2 H2 => ∃ e2, EnvOk M.K B H2 σ2 e2 ∧ Step Fx σ e1 H1 σ2 e2 H2 ∧ FRun M W B Fx σ2 e2 H2 Z (forL (forTurn C t mb) (ds.drop (i + 1)) e2),
      fun σ2 H2 ⟨e2, o2, s2, q2⟩ => ⟨ds.length - (i + 1), by omega, rfl, hlt, e2, o2, s2, q2⟩, fun x H2 y => ?_⟩
    obtain ⟨ext, d, hd, rd⟩ := wk.yld σ' e' H' B lat i x H2 hlt y
    have hdr : ds.drop i = d :: ds.drop (i + 1) := by
      rw [List.drop_eq_getElem_cons hlt]
      congr 1
      rw [List.getElem?_eq_getElem hlt] at hd
      exact Option.some.inj hd
    rw [hdr] at q
    have q : FRun M W B Fx σ' e' H' Z ((forTurn C t mb d e').turn (forL (forTurn C t mb) (ds.drop (i + 1)))) := q
    have o2 := o'.ext ext
    have s2 : Step Fx σ' e' H' σ' e' H2 := Step.ext ext
    cases hbt : bindT t d e' with
    | none =>
      have : forTurn C t mb d e' = .no := by unfold forTurn; rw [hbt]
      rw [this] at q; exact q.elim
    | some e2 =>
      have ft : forTurn C t mb d e' = mb C e2 := by unfold forTurn; rw [hbt]
      rw [ft] at q
      refine ⟨B, e', d, e2, o2, rd, hbt, fun σ3 o3 s3 _ _ => ⟨B, e2, o3, ?_⟩⟩
      have s4 := s2.trans s3
      cases hm : mb C e2 with
      | next e3 => rw [hm] at q; exact fun σ5 H5 o5 s5 => ⟨e3, o5, s'.trans (s4.trans s5), FRun.step (s4.trans s5) q⟩
      | cont e3 => rw [hm] at q; exact fun σ5 H5 o5 s5 => ⟨e3, o5, s'.trans (s4.trans s5), FRun.step (s4.trans s5) q⟩
      | brk e3 => rw [hm] at q; exact fun σ5 H5 o5 s5 => q σ5 H5 o5 (s4.trans s5)
      | ret s e3 => rw [hm] at q; exact FRun.step s4 q
      | exc c dd e3 => rw [hm] at q; exact FRun.step s4 q
      | no => rw [hm] at q; exact q
  · have hi' : i = ds.length := by omega
    subst hi'
    rw [List.drop_length] at q
    exact .inl ⟨wk.stop σ' e' H' B lat, q σ' H' o' Step.refl⟩
end
end Ev
end
section
set_option linter.all false
set_option maxRecDepth 100000
set_option maxHeartbeats 2000000
/-! soundness 7z: list(zip(a, b)) -/
namespace Ev
open PySem L2
section
variable {M : Mdl} {W : WX} {Fx : Nat → Prop} {X : Cx} {C : Ctx} {pos : Pos}
theorem zip_rep {K : Frag} {Av : Addr → Prop} {H1 H' Hm : Hp} {p : Addr} {ts : List Addr} {vs ws : List V} {xs ys : List D} (z : LiZ.ZPost H1 H' p ts vs ws) (hm : ∀ b, b ≠ p → Hm b = H' b) (he : ∀ b o, H1 b = some o → Hm b = some o)
    (r : RepL K Av H1 xs vs) (r2 : RepL K Av H1 ys ws) : RepL K Av Hm (List.zipWith (fun x y => .tuple [x, y]) xs ys) (ts.map V.ref) := by
  have key : ∀ (xs ys : List D) (vs ws : List V) (ts : List Addr), RepL K Av H1 xs vs → RepL K Av H1 ys ws → ts.length = min vs.length ws.length → (∀ (j : Nat) (t : Addr) (x y : V), ts[j]? = some t → vs[j]? = some x → ws[j]? = some y → Hm t = some (.tup [x, y])) →
      RepL K Av Hm (List.zipWith (fun x y => PyData.tuple [x, y]) xs ys) (ts.map V.ref) := by
    intro xs
    induction xs with
    | nil =>
      intro ys vs ws ts h1 h2 hl _
      rw [show vs = [] from h1] at hl
      have : ts = [] := by simpa using hl
      subst this
      exact .nil
    | cons x xs ih =>
      intro ys vs ws ts h1 h2 hl ht
      obtain ⟨v, vs', rfl, q1, q2⟩ := h1
      cases ys with
      | nil =>
        rw [show ws = [] from h2] at hl
        have : ts = [] := by simpa using hl
        subst this
        exact .nil
      | cons y ys =>
        obtain ⟨w, ws', rfl, q3, q4⟩ := h2
        cases ts with
        | nil => simp at hl
        | cons t ts =>
          refine .cons ⟨t, [v, w], rfl, SqT.of (ht 0 t v w rfl rfl rfl), .cons (Rep.ext he q1) (.cons (Rep.ext he q3) .nil)⟩ (ih ys vs' ws' ts q2 q4 ?_ fun j t' x' y' e1 e2 e3 => ht (j + 1) t' x' y' e1 e2 e3)
          simp only [List.length_cons] at hl
          omega
  refine key xs ys vs ws ts r r2 z.len fun j t x y e1 e2 e3 => ?_
  rw [hm t (fun q => z.off (q ▸ List.mem_of_getElem? e1))]
  exact z.tup j t x y e1 e2 e3
theorem sd_lz {a b : Expr} {ma mb : Ex} {p p2 cpos : Pos} (hK : X.K = M.K) (hc : X.calm = true) (hg : Gl X "list") (hm : X.mg "list" = none) (hg2 : Gl X "zip") (hm2 : X.mg "zip" = none) (ha : PE X a (EvR M W Fx (ma C))) (hb : PE X b (EvR M W Fx (mb C)))
    (hs : starEach [a, b] X.env = (false, eval a X.env) :: starEach [b] X.env) (hs2 : starEach [b] X.env = [(false, eval b X.env)]) :
    PE X (.Call (.Name "list" p) [.Call (.Name "zip" p2) [a, b] [] cpos] [] pos) (EvR M W Fx (cLz ma mb C)) := by
  refine pe_weak (LiZ.pe_listZip hc (pa_cons ha (pa_cons hb pa_nil hs2) hs) hg hm hg2 hm2 hs (by rw [hs2]; rfl)) fun σ H Q ⟨B, env, ok, h⟩ => ?_
  refine EvR.val ok h fun d e1 H1 v o1 s1 r1 q => ?_
  refine EvR.val o1 q fun d2 e2 H2 w o2 s2 r2 q => ?_
  obtain ⟨s, hx, q⟩ := RRun.opt.mp q
  have r1 := r1.step o1 s2
  unfold lzD at hx
  split at hx
  · cases hx
    obtain ⟨a, vs, rfl, na, e, r⟩ := r1
    obtain ⟨b, ws, rfl, nb, e2', r'⟩ := r2
    refine ⟨a, b, vs, ws, rfl, SqL_of e, SqL_of e2', fun H' p ts z => ?_⟩
    obtain ⟨Hm, hHm⟩ : ∃ Hm : Hp, Hm = fun b => if b = p then none else H' b := ⟨_, rfl⟩
    have hmp : Hm p = none := by rw [hHm]; exact if_pos rfl
    have hmo : ∀ b, b ≠ p → Hm b = H' b := fun b n => by rw [hHm]; exact if_neg n
    have he : ∀ b o, H2 b = some o → Hm b = some o := fun b o q => by
      rw [hmo b (fun n => by rw [n, z.newp] at q; cases q)]
      exact z.keep b o q
    have hup : H' = upd Hm p (.lst (ts.map V.ref)) := by
      funext b
      by_cases n : b = p
      · rw [n, upd_same, z.lst]
      · rw [upd_ne n, hmo b n]
    rw [hup]
    exact q _ _ (Post.lst (o2.ext he) ((s1.trans s2).trans (Step.ext he)) hmp (zip_rep z hmo he r r'))
  · cases hx
end
end Ev
end
section
set_option linter.all false
set_option maxRecDepth 100000
set_option maxHeartbeats 2000000
/-! soundness 8: comprehensions -/
namespace Ev
open PySem L2

theorem RRun.noX {α : Type} {r : R α} {Qo : α → Env → Prop} {Qx : Nat → List D → Env → Prop} (h : RRun (noX r) Qo Qx) : RRun r Qo fun _ _ _ => False := by
  cases r with
  | ok a e => exact h
  | exc c ds e => exact h.elim
  | no => exact h.elim

section
variable {K : Frag} {B : Addr → Prop} {σ : St} {env : Env} {H : Hp}
theorem wipeE_len : ∀ {vs : List Nat} {e : Env}, (wipeE e vs).length = e.length
  | [], _ => rfl
  | v :: vs, e => by rw [wipeE, List.length_set, wipeE_len]
theorem wipeE_get : ∀ {vs : List Nat} {e : Env} {i : Nat} {s : Slot}, getS (wipeE e vs) i = some s → getS e i = some s ∧ i ∉ vs
  | [], _, _, _, h => ⟨h, by simp⟩
  | v :: vs, e, i, s, h => by
    rw [wipeE, getS_set] at h
    by_cases hv : v = i ∧ v < (wipeE e vs).length
    · rw [if_pos hv] at h; cases h
    · rw [if_neg hv] at h
      obtain ⟨h1, h2⟩ := wipeE_get h
      refine ⟨h1, fun z => ?_⟩
      rcases List.mem_cons.mp z with z | z
      · exact hv ⟨z.symm, by rw [← z]; rw [wipeE_len]; exact getS_lt h1⟩
      · exact h2 z
theorem wipeE_out : ∀ {vs : List Nat} {e : Env} {i : Nat}, i ∉ vs → getS (wipeE e vs) i = getS e i
  | [], _, _, _ => rfl
  | v :: vs, e, i, h => by
    rw [wipeE, getS_set, if_neg (fun q => h (by rw [q.1]; exact List.mem_cons_self ..))]
    exact wipeE_out fun q => h (List.mem_cons_of_mem _ q)
theorem restE_len : ∀ {vs : List Nat} {e0 e : Env}, (restE e0 e vs).length = e.length
  | [], _, _ => rfl
  | v :: vs, e0, e => by rw [restE, List.length_set, restE_len]
theorem restE_out : ∀ {vs : List Nat} {e0 e : Env} {i : Nat}, i ∉ vs → getS (restE e0 e vs) i = getS e i
  | [], _, _, _, _ => rfl
  | v :: vs, e0, e, i, h => by
    rw [restE, getS_set, if_neg (fun q => h (by rw [q.1]; exact List.mem_cons_self ..))]
    exact restE_out fun q => h (List.mem_cons_of_mem _ q)
theorem restE_in : ∀ {vs : List Nat} {e0 e : Env} {i : Nat}, i ∈ vs → i < e.length → getS (restE e0 e vs) i = getS e0 i
  | [], _, _, _, h, _ => by simp at h
  | v :: vs, e0, e, i, h, hl => by
    rw [restE, getS_set]
    by_cases hv : v = i
    · rw [if_pos ⟨hv, by rw [restE_len, hv]; exact hl⟩, hv]
    · rw [if_neg (fun q => hv q.1)]
      rcases List.mem_cons.mp h with z | z
      · exact absurd z.symm hv
      · exact restE_in z hl

theorem wipe_own {vs : List Nat} {e : Env} {a : Addr} (h : Own (wipe σ vs) (wipeE e vs) a) : Own σ e a := by
  obtain ⟨i, ds, h1, h2⟩ := h
  obtain ⟨h3, h4⟩ := wipeE_get h1
  rw [wipe_out h4] at h2
  exact ⟨i, ds, h3, h2⟩
theorem EnvOk.wipe {vs : List Nat} (ok : EnvOk K B H σ env) : EnvOk K B H (wipe σ vs) (wipeE env vs) where
  len := by rw [wipe_length, wipeE_len]; exact ok.len
  rep := fun i s h => by
    obtain ⟨h1, h2⟩ := wipeE_get h
    obtain ⟨v, e1, r⟩ := ok.rep i s h1
    exact ⟨v, by rw [wipe_out h2]; exact e1, r.less fun a q => q.elim .inl fun o => .inr (wipe_own o)⟩
  uniq := fun i j ds es a h1 h2 h3 h4 => by
    obtain ⟨g1, n1⟩ := wipeE_get h1
    obtain ⟨g2, n2⟩ := wipeE_get h2
    rw [wipe_out n1] at h3; rw [wipe_out n2] at h4
    exact ok.uniq i j ds es a g1 g2 h3 h4
  bd := ok.bd
  bo := fun a o => ok.bo a (wipe_own o)
theorem Step.wipe {vs : List Nat} : Step Top σ env H (wipe σ vs) (wipeE env vs) H := ⟨fun _ _ e _ => e, fun _ o => .inl (wipe_own o), fun _ h => h.elim⟩

/-- a list at a place that nobody's data leads to is changed -/
theorem EnvOk.chB {a : Addr} {vs ws : List V} (ok : EnvOk K B H σ env) (hB : B a) (e : H a = some (.lst vs)) : EnvOk K B (upd H a (.lst ws)) σ env where
  len := ok.len
  rep := fun i s h => by
    obtain ⟨v, e1, r⟩ := ok.rep i s h
    refine ⟨v, e1, ?_⟩
    have hl : ∀ b us, H b = some (.lst us) → ¬ Avd B σ env b → upd H a (.lst ws) b = some (.lst us) ∧ ¬ Avd B σ env b := fun b us q n => ⟨by rw [upd_ne (fun z => n (by rw [z]; exact .inl hB))]; exact q, n⟩
    have ht : NoL H (upd H a (.lst ws)) := .lst e
    cases s with
    | val d => exact Rep.stab hl ht d v r
    | own es =>
      obtain ⟨b, us, rfl, e2, e3⟩ := r
      have : b ≠ a := fun z => ok.bo b ⟨i, es, h, e1⟩ (by rw [z]; exact hB)
      exact ⟨b, us, rfl, by rw [upd_ne this]; exact e2, RepL.stab hl ht es us e3⟩
    | rd es =>
      obtain ⟨b, us, e0, e2, e3⟩ := r
      refine ⟨b, us, e0, ?_, RepL.stab hl ht es us e3⟩
      rcases e2 with ⟨o, h⟩ | h
      · exact .inl ⟨o, by rw [upd_ne (fun z => by rw [z, e] at h; cases h)]; exact h⟩
      · exact .inr h
  uniq := ok.uniq
  bd := fun b h => by
    by_cases z : b = a
    · subst z; rw [upd_same]; intro q; cases q
    · rw [upd_ne z]; exact ok.bd b h
  bo := ok.bo
theorem RepL.chB {a : Addr} {vs ws : List V} (hB : B a) (e : H a = some (.lst vs)) {ds : List D} {us : List V} (r : RepL K (Avd B σ env) H ds us) : RepL K (Avd B σ env) (upd H a (.lst ws)) ds us :=
  RepL.stab (fun b us q n => ⟨by rw [upd_ne (fun z => n (by rw [z]; exact .inl hB))]; exact q, n⟩) (.lst e) ds us r
theorem Rep.chB {a : Addr} {vs ws : List V} (hB : B a) (e : H a = some (.lst vs)) {d : D} {v : V} (r : Rep K (Avd B σ env) H d v) : Rep K (Avd B σ env) (upd H a (.lst ws)) d v :=
  Rep.stab (fun b us q n => ⟨by rw [upd_ne (fun z => n (by rw [z]; exact .inl hB))]; exact q, n⟩) (.lst e) d v r
theorem wipe_eq {σ σ2 : St} {vs ms : List Nat} (hm : ∀ j ∈ ms, j ∈ vs) (h : ∀ j, j ∉ ms → σ2[j]? = (L2.wipe σ vs)[j]?) (hl : σ2.length = (L2.wipe σ vs).length) : L2.wipe σ2 vs = L2.wipe σ vs := by
  apply List.ext_getElem?
  intro j
  by_cases hj : j ∈ vs
  · have key : ∀ (τ : St), (L2.wipe τ vs)[j]? = if j < τ.length then some none else none := fun τ => by
      cases e : (L2.wipe τ vs)[j]? with
      | none =>
        have := List.getElem?_eq_none_iff.mp e
        rw [wipe_length] at this
        rw [if_neg (by omega)]
      | some o =>
        have hlt : j < τ.length := by
          have := (List.getElem?_eq_some_iff.mp e).1
          rwa [wipe_length] at this
        rw [if_pos hlt]
        cases o with
        | none => rfl
        | some x => exact absurd hj (wipe_some e).2
    rw [key, key]
    rw [hl, wipe_length]
  · rw [wipe_out hj, h j fun q => hj (hm j q)]
end

section
variable {M : Mdl} {W : WX} {Fx : Nat → Prop} {X : Cx} {C : Ctx} {pos : Pos}
/-- an exception that is no answer -/
abbrev WN : WX := fun _ _ _ _ => False
theorem Step.chN {σ σ1 : St} {env env1 : Env} {H H1 : Hp} {p : Addr} {o : HO} (st : Step Fx σ env H σ1 env1 H1) (hp : H p = none) : Step Fx σ env H σ1 env1 (upd H1 p o) :=
  ⟨fun a u e n => by rw [upd_ne (ne_of_none e hp)]; exact st.keep a u e n, st.own, st.fx⟩
theorem noOwn_at {e : Env} {vs : List Nat} (h : noOwn e vs = true) {v : Nat} (hv : v ∈ vs) {s : Slot} (hs : getS e v = some s) : ∃ d, s = .val d := by
  unfold noOwn at h
  have := List.all_eq_true.mp h v hv
  rw [hs] at this
  cases s with
  | val d => exact ⟨d, rfl⟩
  | own _ => cases this
  | rd _ => cases this
/-- what a turn's rest says -/
def LcW (M : Mdl) (B : Addr → Prop) (σ : St) (e0 : Env) (H1 : Hp) (Dd : Addr) (vs : List Nat) (ds : List D) (f : D → Env → R (Option D)) (Qo : List D → Env → Prop) (i : Nat) (H' : Hp) : Prop :=
  ∃ e' acc av, EnvOk M.K (fun a => B a ∨ a = Dd) H' (L2.wipe σ vs) e' ∧ Step Top σ e0 H1 (L2.wipe σ vs) e' H' ∧ H' Dd = some (.lst av) ∧
    RepL M.K (Avd (fun a => B a ∨ a = Dd) (L2.wipe σ vs) e') H' acc av ∧ RRun (loopL f acc.length (ds.drop i) e') (fun r e => Qo (acc ++ r) e) fun _ _ _ => False
theorem lc_read {t : MT} {mi : Ix} {mc : Option Tx} {me : Ex} {vs : List Nat} (hm : ∀ j ∈ mtN t, j ∈ vs) {tt : TT}
    (htt : ∀ σ H Q, (∃ B env, EnvOk M.K B H σ env ∧ RRun (evC C mc env) (fun b env' => ∀ H', EnvOk M.K B H' σ env' → Step Top σ env H σ env' H' → Q b H') (XQ M WN B Top σ env H)) → tt σ H Q) :
    ∀ σ H Q, EvR M W Fx (cLc me t mi mc vs C) σ H Q → tLc (IvR M W Fx (mi C)) (GvR M Top t) tt (EvR M WN Top (me C)) vs σ H Q := by
  rintro σ H Q ⟨B, env, ok, h⟩
  unfold cLc at h
  rw [RRun.bind] at h
  refine ⟨B, env, ok, h.imp (fun ds e0 q H1 J o1 s1 wk => ?_) fun _ _ _ q => q⟩
  by_cases hno : noOwn e0 vs = true
  case neg => rw [if_neg hno] at q; exact q.elim
  rw [if_pos hno, RRun.bind] at q
  have q := RRun.noX q
  intro Dd hD
  have nB : ¬ B Dd := o1.notB hD
  refine ⟨fun i m H' => m = ds.length - i ∧ i ≤ ds.length ∧ LcW M B σ e0 H1 Dd vs ds (lcTurn C t mc me vs) (fun r e => ∀ H' v, Post M.K B Fx σ env H (restE e0 e vs) H' (.own r) v → Q v H') i H',
    ⟨_, rfl, Nat.zero_le _, wipeE e0 vs, [], [], (o1.newB hD).wipe, (Step.new hD).trans Step.wipe, upd_same, .nil, q⟩, ?_⟩
  rintro i m H' ⟨rfl, hi, e', acc, av, o', s', hd', ra, q⟩
  have lat : Later M.K B σ e0 H1 (L2.wipe σ vs) e' H' (fun a => B a ∨ a = Dd) := ⟨o', fun a b => b.elim .inl fun z => by rw [z]; exact .inr hD, s'⟩
  by_cases hlt : i < ds.length
  · refine .inr ⟨wk.go _ e' H' _ lat i hlt, fun H2 => LcW M B σ e0 H1 Dd vs ds (lcTurn C t mc me vs) (fun r e => ∀ H' v, Post M.K B Fx σ env H (restE e0 e vs) H' (.own r) v → Q v H') (i + 1) H2,
      fun H2 w => ⟨ds.length - (i + 1), by omega, rfl, hlt, w⟩, fun x H2 y => ?_⟩
    obtain ⟨ext, d, hd, rd⟩ := wk.yld _ e' H' _ lat i x H2 hlt y
    have hdr : ds.drop i = d :: ds.drop (i + 1) := by
      rw [List.drop_eq_getElem_cons hlt]
      congr 1
      rw [List.getElem?_eq_getElem hlt] at hd
      exact Option.some.inj hd
    rw [hdr] at q
    have q : RRun ((lcTurn C t mc me vs d e').bind fun o e => match o with
      | some d => if decide (acc.length < sizeLine) then (loopL (lcTurn C t mc me vs) (acc.length + 1) (ds.drop (i + 1)) e).bind fun r e => .ok (d :: r) e else .no
      | none => loopL (lcTurn C t mc me vs) acc.length (ds.drop (i + 1)) e) _ _ := q
    rw [RRun.bind] at q
    have o2 := o'.ext ext
    have s2 : Step Top (L2.wipe σ vs) e' H' (L2.wipe σ vs) e' H2 := Step.ext ext
    cases hbt : bindT t d e' with
    | none =>
      have : lcTurn C t mc me vs d e' = .no := by unfold lcTurn; rw [hbt]
      rw [this] at q; exact q.elim
    | some e2 =>
      have ft : lcTurn C t mc me vs d e' = (evC C mc e2).bind fun k e => if k then (Ev.val (me C e)).bind fun d e => .ok (some d) (wipeE e vs) else .ok none (wipeE e vs) := by unfold lcTurn; rw [hbt]
      rw [ft, RRun.bind] at q
      refine ⟨fun a => B a ∨ a = Dd, e', d, e2, o2, rd, hbt, fun σ3 o3 s3 n3 l3 => ⟨wipe_eq hm n3 l3, ?_⟩⟩
      have w3 := wipe_eq hm n3 l3
      have s4 := s2.trans s3
      -- behind the turn: the slots of the block's own names are forgotten
      have fin : ∀ {e3 : Env} {H3 : Hp}, EnvOk M.K (fun a => B a ∨ a = Dd) H3 σ3 e3 → Step Top (L2.wipe σ vs) e' H' σ3 e3 H3 → EnvOk M.K (fun a => B a ∨ a = Dd) H3 (L2.wipe σ vs) (wipeE e3 vs) ∧ Step Top (L2.wipe σ vs) e' H' (L2.wipe σ vs) (wipeE e3 vs) H3 := fun {e3 H3} o5 s5 => by
        have a := o5.wipe (vs := vs)
        have b := s5.trans (Step.wipe (vs := vs))
        rw [w3] at a b
        exact ⟨a, b⟩
      have hDD : ∀ {τ : St} {e3 : Env} {H3 : Hp}, Step Top (L2.wipe σ vs) e' H' τ e3 H3 → H3 Dd = some (.lst av) := fun {τ e3 H3} s5 => s5.keep Dd _ hd' fun o => o'.bo Dd o (.inr rfl)
      refine htt σ3 H2 _ ⟨_, e2, o3, q.imp (fun k e3 q H3 o4 s5 => ?_) fun _ _ _ q => q.elim⟩
      have s6 := s4.trans s5
      cases k with
      | false =>
        rw [if_neg (by simp)] at q ⊢
        obtain ⟨o7, s7⟩ := fin o4 s6
        exact ⟨wipeE e3 vs, acc, av, o7, s'.trans s7, hDD s6, ra.step o' s7, q⟩
      | true =>
        rw [if_pos rfl] at q ⊢
        rw [RRun.bind] at q
        unfold Ev.val at q
        rw [RRun.bind] at q
        refine ⟨_, e3, o4, q.imp (fun s e4 q H4 yv p => ?_) fun _ _ _ q => q.elim⟩
        rw [RRun.opt] at q
        obtain ⟨y, hy, q⟩ := q
        have s8 := s6.trans p.st
        have q : RRun (if decide (acc.length < sizeLine) then (loopL (lcTurn C t mc me vs) (acc.length + 1) (ds.drop (i + 1)) (wipeE e4 vs)).bind fun r e => .ok (y :: r) e else .no) (fun r e => ∀ H' v, Post M.K B Fx σ env H (restE e0 e vs) H' (.own (acc ++ r)) v → Q v H') (fun _ _ _ => False) := q
        by_cases hz : acc.length < sizeLine
        case neg => rw [if_neg (by simpa using hz)] at q; exact q.elim
        rw [if_pos (decide_eq_true hz), RRun.bind] at q
        refine ⟨av, hDD s8, by rw [← ra.length]; exact hz, ?_⟩
        obtain ⟨o7, s7⟩ := fin p.ok' s8
        have hB : (fun a => B a ∨ a = Dd) Dd := .inr rfl
        have ry : Rep M.K (Avd (fun a => B a ∨ a = Dd) (L2.wipe σ vs) (wipeE e4 vs)) H4 y yv := by
          have z := p.dat hy
          refine z.less fun a h => h.elim .inl fun h => .inr ?_
          have : Own (L2.wipe σ3 vs) (wipeE e4 vs) a := by rw [w3]; exact h
          exact wipe_own this
        refine ⟨wipeE e4 vs, acc ++ [y], av ++ [yv], o7.chB hB (hDD s8), (s'.trans s7).chN hD, upd_same, RepL.chB hB (hDD s8) ((ra.step o' s7).append (.cons ry .nil)), ?_⟩
        rw [List.length_append, List.length_singleton]
        refine q.imp (fun r e q => ?_) fun _ _ _ q => q
        rw [List.append_assoc]; exact q
  · have hi' : i = ds.length := by omega
    subst hi'
    rw [List.drop_length] at q
    refine .inl ⟨wk.stop _ e' H' _ lat, ?_⟩
    have q : ∀ H' v, Post M.K B Fx σ env H (restE e0 e' vs) H' (.own (acc ++ [])) v → Q v H' := q
    rw [List.append_nil] at q
    have len : (restE e0 e' vs).length = σ.length := by rw [restE_len, o'.len, wipe_length]
    have ow : ∀ a, Own σ (restE e0 e' vs) a → Own (L2.wipe σ vs) e' a := fun a ⟨j, es, h1, h2⟩ => by
      by_cases hj : j ∈ vs
      · have hl := getS_lt h1
        rw [restE_len] at hl
        rw [restE_in hj hl] at h1
        obtain ⟨d, z⟩ := noOwn_at hno hj h1
        cases z
      · rw [restE_out hj] at h1
        exact ⟨j, es, h1, by rw [wipe_out hj]; exact h2⟩
    have av' : ∀ a, Avd (Bt B (.own acc) (.ref Dd)) σ (restE e0 e' vs) a → Avd (fun a => B a ∨ a = Dd) (L2.wipe σ vs) e' a := fun a h => h.elim (fun h => .inl (Bt_own a h)) fun h => .inr (ow a h)
    refine q H' (.ref Dd) ⟨⟨len, fun j s h => ?_, fun j k es fs a h1 h2 h3 h4 => ?_, fun a b => o'.bd a (Bt_own a b), fun a o b => o'.bo a (ow a o) (Bt_own a b)⟩, ⟨fun a o e n => ?_, fun a o => ?_, fun _ _ => rfl⟩, ⟨Dd, av, rfl, hd', ra.less av'⟩, fun a tm => ?_, fun _ z => by cases z⟩
    · by_cases hj : j ∈ vs
      · have hl := getS_lt h
        rw [restE_len] at hl
        rw [restE_in hj hl] at h
        obtain ⟨v, e1, r⟩ := o1.rep j s h
        obtain ⟨d, rfl⟩ := noOwn_at hno hj h
        exact ⟨v, e1, Rep.less (lat.rep o1 r) av'⟩
      · rw [restE_out hj] at h
        obtain ⟨v, e1, r⟩ := o'.rep j s h
        rw [wipe_out hj] at e1
        exact ⟨v, e1, r.less av'⟩
    · have g : ∀ {j : Nat} {es : List D}, getS (restE e0 e' vs) j = some (.own es) → getS e' j = some (.own es) ∧ j ∉ vs := fun {j es} h => by
        by_cases hj : j ∈ vs
        · have hl := getS_lt h
          rw [restE_len] at hl
          rw [restE_in hj hl] at h
          obtain ⟨d, z⟩ := noOwn_at hno hj h
          cases z
        · rw [restE_out hj] at h; exact ⟨h, hj⟩
      obtain ⟨g1, n1⟩ := g h1
      obtain ⟨g2, n2⟩ := g h2
      exact o'.uniq j k _ _ a g1 g2 (by rw [wipe_out n1]; exact h3) (by rw [wipe_out n2]; exact h4)
    · exact s'.keep a o (s1.keep a o e n) fun q => (s1.own a q).elim n fun z => by rw [e] at z; cases z
    · exact (s'.own a (ow a o)).elim (fun q => s1.own a q) fun z => s1.back z
    · obtain ⟨_, z⟩ := tm
      cases z
      exact ⟨nB, s1.back hD⟩
end
end Ev
end
section
set_option linter.all false
set_option maxRecDepth 100000
set_option maxHeartbeats 2000000
/-! soundness 9: further expressions and statements -/
namespace Ev
open PySem L2

section
variable {M : Mdl} {W : WX} {Fx : Nat → Prop} {X : Cx} {C : Ctx} {pos : Pos}
theorem EvR.cont {m : Env → R Slot} {σ : St} {H : Hp} {Q : VK} {B : Addr → Prop} {env e1 : Env} {H1 : Hp} (o1 : EnvOk M.K B H1 σ e1) (s1 : Step Fx σ env H σ e1 H1)
    (h : RRun (m e1) (fun s env' => ∀ H' v, Post M.K B Fx σ env H env' H' s v → Q v H') (XQ M W B Fx σ e1 H1)) : EvR M W Fx m σ H1 Q :=
  ⟨B, e1, o1, h.imp (fun s e2 f H2 v p => f H2 v (p.more s1)) fun _ _ _ q => q⟩
theorem sd_ite {c a b : Expr} {mc : Tx} {ma mb : Ex} (hc : PT X c (TvR M W Fx (mc C))) (ha : PE X a (EvR M W Fx (ma C))) (hb : PE X b (EvR M W Fx (mb C))) : PE X (.IfExp c a b pos) (EvR M W Fx (cIte mc ma mb C)) := by
  refine pe_weak (pe_ifExp hc ha hb) fun σ H Q ⟨B, env, ok, h⟩ => ?_
  refine TvR.val ok h fun k e1 H1 o1 s1 q => ?_
  cases k with
  | true => rw [if_pos rfl] at q ⊢; exact EvR.cont o1 s1 q
  | false => rw [if_neg (by simp)] at q ⊢; exact EvR.cont o1 s1 q
theorem sd_and {e a : Expr} {b : Expr} {ma mb : Ex} (hK : X.K = M.K) (ha : PE X a (EvR M W Fx (ma C))) (hb : PE X b (EvR M W Fx (mb C))) (he : PE X a (EvR M W Fx (ma C)) → PE X b (EvR M W Fx (mb C)) → PE X e (tAndT X.K (EvR M W Fx (ma C)) (EvR M W Fx (mb C)))) :
    PE X e (EvR M W Fx (cAnd ma mb C)) := by
  refine pe_weak (he ha hb) fun σ H Q ⟨B, env, ok, h⟩ => ?_
  refine EvR.val ok h fun d e1 H1 x o1 s1 r1 q => ?_
  rw [RRun.bind, RRun.opt] at q
  obtain ⟨k, hk, q⟩ := q
  refine ⟨k, by rw [hK]; exact pk_tru hk r1.pk, ?_⟩
  cases k with
  | true => rw [if_pos rfl] at q ⊢; exact EvR.cont o1 s1 q
  | false => rw [if_neg (by simp)] at q ⊢; exact q H1 x (Post.val o1 s1 r1)
theorem sd_or {e a : Expr} {b : Expr} {ma mb : Ex} (hK : X.K = M.K) (ha : PE X a (EvR M W Fx (ma C))) (hb : PE X b (EvR M W Fx (mb C))) (he : PE X a (EvR M W Fx (ma C)) → PE X b (EvR M W Fx (mb C)) → PE X e (tOrT X.K (EvR M W Fx (ma C)) (EvR M W Fx (mb C)))) :
    PE X e (EvR M W Fx (cOr ma mb C)) := by
  refine pe_weak (he ha hb) fun σ H Q ⟨B, env, ok, h⟩ => ?_
  have h : RRun ((ma C env).bind fun s e => (R.opt (s.dat.bind truthD) e).bind fun k e => if k then .ok s e else mb C e) _ _ := h
  rw [RRun.bind] at h
  refine EvR.then ok h fun s e1 H1 x q p => ?_
  rw [RRun.bind, RRun.opt] at q
  obtain ⟨k, hk, q⟩ := q
  obtain ⟨d, hd, hk⟩ := Option.bind_eq_some_iff.mp hk
  refine ⟨k, by rw [hK]; exact pk_tru hk (p.dat hd).pk, ?_⟩
  cases k with
  | true => rw [if_pos rfl] at q ⊢; exact q H1 x p
  | false => rw [if_neg (by simp)] at q ⊢; exact EvR.cont p.ok' p.st (xq_step p.st q)
theorem un_not (hK : X.K = M.K) {a : Expr} {ma : Ex} (ha : PE X a (EvR M W Fx (ma C))) : PE X (.UnaryOp .Not a pos) (tUn (UnD M Fx gNot) (EvR M W Fx (ma C))) := by
  refine pe_weak (pe_notT ha) fun σ H Q ⟨B, env, ok, h⟩ => ?_
  refine ⟨B, env, ok, h.imp (fun s e f H' v p => ?_) fun _ _ _ q => q⟩
  obtain ⟨B', σ', env', dx, sl, ok', px, hg, q⟩ := f H' v p
  obtain ⟨k, hk, rfl⟩ := Option.map_eq_some_iff.mp hg
  exact ⟨k, by rw [hK]; exact pk_tru hk px, q H' _ (Post.val ok' Step.refl rfl)⟩
theorem ur_neg (hK : X.K = M.K) : UnR X (unaryOp .USub) (UnD M Fx negD) := by
  intro pins s σ' H x v Q I rx ⟨B, σ, env, dx, sl, ok, px, hg, q⟩
  unfold negD at hg
  split at hg
  · cases hg; cases px
    exact un_neg pins s σ' H _ v Q I rx ⟨_, rfl, q _ _ (Post.val ok Step.refl rfl)⟩
  · cases hg
theorem or_isN (ng : Bool) {a : Expr} {ma : Ex} {j : Nat} {p' : Pos} (ha : PE X a (EvR M W Fx (ma C))) : PE X (.Compare a [if ng then .IsNot else .Is] [.Constant .none j p'] pos) (tUn (UnD M Fx (gIsN ng)) (EvR M W Fx (ma C))) := by
  have key : ∀ {d : D} {K : Frag} {Av : Addr → Prop} {H : Hp} {x : V}, Pk K Av H d x → decide (x = .non) = isN d := fun {d K Av H x} r => by
    cases d with
    | none => rw [show x = V.non from r]; rfl
    | bool b => rw [show x = V.bl b from r]; rfl
    | int b => rw [show x = V.int b from r]; rfl
    | str b => rw [show x = V.str b from r]; rfl
    | list b => obtain ⟨a, vs, rfl, _⟩ := r; rfl
    | tuple b => obtain ⟨a, vs, rfl, _⟩ := r; rfl
    | dict b => rcases r with ⟨_, _, _, _, _, _, rfl, _⟩ | ⟨_, _, _, _, _, _, rfl, _⟩ <;> rfl
  cases ng with
  | false =>
    refine pe_weak (pe_cmp (pc_isN ha) rfl) fun σ H Q ⟨B, env, ok, h⟩ => ?_
    refine ⟨B, env, ok, h.imp (fun s e f H' v p => ?_) fun _ _ _ q => q⟩
    obtain ⟨B', σ', env', dx, sl, ok', px, hg, q⟩ := f H' v p
    cases hg
    rw [key px]
    exact q H' _ (Post.val ok' Step.refl rfl)
  | true =>
    refine pe_weak (pe_cmp (pc_notN ha) rfl) fun σ H Q ⟨B, env, ok, h⟩ => ?_
    refine ⟨B, env, ok, h.imp (fun s e f H' v p => ?_) fun _ _ _ q => q⟩
    obtain ⟨B', σ', env', dx, sl, ok', px, hg, q⟩ := f H' v p
    cases hg
    rw [key px]
    exact q H' _ (Post.val ok' Step.refl rfl)

theorem chn_read {ma mb mc : Ex} {o1 o2 : COp} : ∀ σ H Q, EvR M W Fx (cChn o1 o2 ma mb mc C) σ H Q → tChain (OpD M Fx (gCmp o1)) (OpD M Fx (gCmp o2)) (EvR M W Fx (ma C)) (EvR M W Fx (mb C)) (EvR M W Fx (mc C)) σ H Q := fun σ H Q ⟨B, env, ok, h⟩ => by
  refine EvR.val ok h fun d e1 H1 x ok1 s1 r1 q => ?_
  refine EvR.val ok1 q fun d2 e2 H2 y ok2 s2 r2 q => ?_
  rw [RRun.bind, RRun.opt] at q
  obtain ⟨k, hk, q⟩ := q
  refine ⟨B, σ, e2, d, d2, _, ok2, (r1.step ok1 s2).pk, r2.pk, show gCmp o1 d d2 = some (.val (.bool k)) from by unfold gCmp; rw [hk]; rfl, fun H3 v p => ?_⟩
  have ev : v = .bl k := p.dat rfl
  subst ev
  refine ⟨k, rfl, ?_⟩
  have s3 := (s1.trans s2).trans p.st
  have o3 := p.ok'
  cases k with
  | false => rw [if_neg (by simp)] at q ⊢; exact q H3 _ (Post.val o3 s3 rfl)
  | true =>
    rw [if_pos rfl] at q ⊢
    refine EvR.val o3 (xq_step p.st q) fun d3 e4 H4 z ok4 s4 r4 q => ?_
    obtain ⟨s, hs, q⟩ := RRun.opt.mp q
    have s24 := p.st.trans s4
    exact ⟨B, σ, e4, d2, d3, s, ok4, (r2.step ok2 s24).pk, r4.pk, hs, fun H' v p' => q H' v (p'.more (s3.trans s4))⟩

/-- a < b < c -/
theorem sd_chn {a b c : Expr} {ma mb mc : Ex} {o1 o2 : COp} {p1 p2 : CmpOp} (h1 : OpR X (compareOp p1) (OpD M Fx (gCmp o1))) (h2 : OpR X (compareOp p2) (OpD M Fx (gCmp o2))) (ha : PE X a (EvR M W Fx (ma C))) (hb : PE X b (EvR M W Fx (mb C))) (hc : PE X c (EvR M W Fx (mc C)))
    (hm : lastMarks [p1, p2] [b, c] = false) : PE X (.Compare a [p1, p2] [b, c] pos) (EvR M W Fx (cChn o1 o2 ma mb mc C)) := pe_weak (pe_chain h1 h2 ha hb hc hm) chn_read

/-! ### subscripts -/
theorem atL_eq {α : Type} (xs : List α) (i : Int) : atL xs i = L2.atI xs i := rfl
theorem atV {K : Frag} {Av : Addr → Prop} {H : Hp} {ds : List D} {vs : List V} {i : Int} {d : D} (r : RepL K Av H ds vs) (h : atL ds i = some d) : ∃ v, L2.atI vs i = some v ∧ Rep K Av H d v := by
  unfold atL at h
  obtain ⟨j, h1, h2⟩ := Option.bind_eq_some_iff.mp h
  obtain ⟨v, h3, r3⟩ := r.get h2
  refine ⟨v, ?_, r3⟩
  unfold L2.atI
  have : L2.ixN vs.length i = some j := by rw [← r.length]; exact h1
  rw [this]; exact h3
theorem if_some' {α : Type} {b : Prop} [Decidable b] {x : Option α} {y : α} (h : (if decide b = true then x else none) = some y) : b ∧ x = some y := by
  by_cases hb : b
  · rw [if_pos (decide_eq_true hb)] at h; exact ⟨hb, h⟩
  · rw [if_neg (by simpa using hb)] at h; cases h
theorem ir_at (hK : X.K = M.K) : IxR X (OpD M Fx gAt) := by
  intro ve se pins s σ' H x y v u Q I rx ry ⟨B, σ, env, dx, dy, sl, ok, px, py, hg, q⟩
  rw [← hK] at ok px py q
  obtain ⟨d, hd, rfl⟩ := Option.map_eq_some_iff.mp hg
  unfold atD at hd
  split at hd
  · obtain ⟨a, vs, rfl, e, r⟩ := px
    cases py
    obtain ⟨w, hw, rw'⟩ := atV r hd
    -- an item of an owned list, or of any other
    exact ix_list ve se pins s σ' H _ _ v u Q I rx ry ⟨a, vs, _, w, rfl, rfl, SqL_of e, hw, q _ _ (Post.val ok Step.refl rw')⟩
  · obtain ⟨a, vs, rfl, e, r⟩ := px
    cases py
    obtain ⟨w, hw, rw'⟩ := atV r hd
    exact ix_tup ve se pins s σ' H _ _ v u Q I rx ry ⟨a, vs, _, w, rfl, rfl, e, hw, q _ _ (Post.val ok Step.refl rw')⟩
  · obtain ⟨hz, hd⟩ := if_some' hd
    cases px; cases py
    obtain ⟨c, hc, rfl⟩ := Option.map_eq_some_iff.mp hd
    exact ix_str ve se pins s σ' H _ _ v u Q I rx ry ⟨_, _, c, rfl, rfl, hz, hc, q _ _ (Post.val ok Step.refl rfl)⟩
  · cases hd
/-! ### slices -/
/-- the reading of a part of a slice -/
def OvR (M : Mdl) (W : WX) (Fx : Nat → Prop) (r : Env → R (Option Int)) : TO := fun σ H Q => ∃ B env, EnvOk M.K B H σ env ∧
  RRun (r env) (fun o env' => ∀ H', EnvOk M.K B H' σ env' → Step Fx σ env H σ env' H' → Q o H') (XQ M W B Fx σ env H)
theorem po_weak {e : Option Expr} {t t' : TO} (h : PO X e t) (w : ∀ σ H Q, t' σ H Q → t σ H Q) : PO X e t' := ⟨fun pins s σ H Q I q => h.run pins s σ H Q I (w σ H Q q)⟩
theorem o_none : PO X none (OvR M W Fx (evO C none)) := po_weak po_none fun σ H Q ⟨B, env, ok, h⟩ => h H ok Step.refl
theorem o_some {e : Expr} {m : Ex} (he : PE X e (EvR M W Fx (m C))) : PO X (some e) (OvR M W Fx (evO C (some m))) := by
  refine po_weak (po_some he) fun σ H Q ⟨B, env, ok, h⟩ => ?_
  refine EvR.val ok h fun d e1 H1 x o1 s1 r1 q => ?_
  rw [RRun.bind, RRun.opt] at q
  obtain ⟨i, hi, q⟩ := q
  have : d = .int i := by
    unfold intO at hi
    split at hi
    · cases hi; rfl
    · cases hi
  subst this
  cases r1
  exact ⟨i, rfl, q H1 o1 s1⟩
theorem OvR.then {α : Type} {m : Env → R (Option Int)} {f : Option Int → Env → R α} {Qo : α → Env → Prop} {σ : St} {H : Hp} {B : Addr → Prop} {env : Env} {Q : Option Int → Hp → Prop} (ok : EnvOk M.K B H σ env)
    (h : RRun ((m env).bind f) Qo (XQ M W B Fx σ env H))
    (k : ∀ o env' H', EnvOk M.K B H' σ env' → Step Fx σ env H σ env' H' → RRun (f o env') Qo (XQ M W B Fx σ env' H') → Q o H') : OvR M W Fx m σ H Q := by
  rw [RRun.bind] at h
  exact ⟨B, env, ok, h.imp (fun o e' q H' ok' st => k o e' H' ok' st (xq_step st q)) fun _ _ _ q => q⟩
theorem cut_rep {K : Frag} {Av : Addr → Prop} {H : Hp} {ds : List D} {vs : List V} {lo hi : Option Int} (r : RepL K Av H ds vs) : RepL K Av H (cutD ds lo hi) (L2.cutV vs lo hi) := by
  unfold cutD L2.cutV
  have hl := r.length
  have e : ∀ n d o, sIx n d o = HT.sIx n d o := fun n d o => rfl
  rw [e, e, hl]
  exact (r.drop _).take _
def SliceD (M : Mdl) (Fx : Nat → Prop) : V → Option Int → Option Int → Hp → VK → Prop := fun x lo hi H Q => ∃ B σ env dx s, EnvOk M.K B H σ env ∧
  (Pk M.K (Avd B σ env) H dx x ∨ ∃ ds a vs, dx = .list ds ∧ x = .ref a ∧ SqR M.K H a vs ∧ RepL M.K (Avd B σ env) H ds vs) ∧ slD dx lo hi = some s ∧ ∀ H' v, Post M.K B Fx σ env H env H' s v → Q v H'
theorem sr_sl (hK : X.K = M.K) : L2.SlR X (SliceD M Fx) := by
  intro pins s σ' H x v vl vu lo hi sl Q I rx hs pl pu ⟨B, σ, env, dx, sl', ok, px, hg, q⟩
  unfold slD at hg
  split at hg
  · cases hg
    rename_i xs
    have : ∃ a vs, x = .ref a ∧ SqL M.K H a vs ∧ RepL M.K (Avd B σ env) H xs vs := by
      rcases px with ⟨a, vs, rfl, e, r⟩ | ⟨ds, a, vs, h, rfl, e, r⟩
      · exact ⟨a, vs, rfl, SqL_of e, r⟩
      · cases h; exact ⟨a, vs, rfl, e.sq, r⟩
    obtain ⟨a, vs, rfl, e, r⟩ := this
    exact sl_list pins s σ' H _ v vl vu lo hi sl Q I rx hs pl pu ⟨a, vs, rfl, by rw [hK]; exact e, fin_lst ok q (cut_rep r)⟩
  · cases hg
    rcases px with ⟨a, vs, rfl, e, r⟩ | ⟨ds, a, vs, h, _⟩
    · refine sl_tupA pins s σ' H _ v vl vu lo hi sl Q I rx hs pl pu ⟨a, vs, rfl, by rw [hK]; exact e, fun z => ?_, fun _ p hp => fin_tup ok q (cut_rep r) p hp⟩
      have e2 : L2.cutV vs lo hi = vs := by
        unfold L2.cutV
        rw [z.1, z.2]; simp
      have r2 := cut_rep (lo := lo) (hi := hi) r
      rw [e2] at r2
      exact q H _ (Post.val ok Step.refl ⟨a, vs, rfl, e, r2⟩)
    · cases h
  · obtain ⟨hz, rfl⟩ := if_some hg
    rcases px with px | ⟨ds, a, vs, h, _⟩
    · cases px
      refine sl_str pins s σ' H _ v vl vu lo hi sl Q I rx hs pl pu ⟨_, rfl, of_decide_eq_true hz, ?_⟩
      refine q H _ (Post.val ok Step.refl ?_)
      rename_i z
      show V.str (L2.cutS z lo hi) = V.str (S (cutD (cs z) lo hi))
      have e : (cs z).length = z.length := by simp [cs, Str.length]
      unfold L2.cutS S cutD
      rw [e]; rfl
    · cases h
  · cases hg
theorem sd_sl {e : Expr} {lo hi : Option Expr} {m : Ex} {ml mh : Option Ex} {p2 : Pos} (hK : X.K = M.K) (he : PE X e (EvR M W Fx (m C))) (hl : PO X lo (OvR M W Fx (evO C ml))) (hh : PO X hi (OvR M W Fx (evO C mh))) :
    PE X (.Subscript e (.Slice lo hi none p2) pos) (EvR M W Fx (cSl m ml mh C)) := by
  refine pe_weak (pe_slice (sr_sl (Fx := Fx) hK) he hl hh) fun σ H Q ⟨B, env, ok, h⟩ => ?_
  refine EvR.val ok h fun d e1 H1 x o1 s1 r1 q => ?_
  refine OvR.then o1 q fun l e2 H2 o2 s2 q => ?_
  refine OvR.then o2 q fun u e3 H3 o3 s3 q => ?_
  obtain ⟨s, hs, q⟩ := RRun.opt.mp q
  exact ⟨B, σ, e3, d, s, o3, .inl (r1.step o1 (s2.trans s3)).pk, hs, fun H' v p => q H' v (p.more ((s1.trans s2).trans s3))⟩
theorem sd_slV {i : Nat} {x : Expr} {lo hi : Option Expr} {ml mh : Option Ex} {p2 : Pos} (hK : X.K = M.K) (he : PE X x (tVar i)) (hl : PO X lo (OvR M W Fx (evO C ml))) (hh : PO X hi (OvR M W Fx (evO C mh))) :
    PE X (.Subscript x (.Slice lo hi none p2) pos) (EvR M W Fx (cSlV i ml mh C)) := by
  refine pe_weak (pe_slice (sr_sl (Fx := Fx) hK) he hl hh) fun σ H Q ⟨B, env, ok, h⟩ => ?_
  unfold cSlV at h
  rw [RRun.bind, RRun.opt] at h
  obtain ⟨s0, e0, h⟩ := h
  obtain ⟨v, hv, _⟩ := ok.rep i s0 e0
  refine ⟨v, hv, ?_⟩
  refine OvR.then ok h fun l e2 H2 o2 s2 q => ?_
  refine OvR.then o2 q fun u e3 H3 o3 s3 q => ?_
  obtain ⟨s, hs, q⟩ := RRun.opt.mp q
  obtain ⟨d, hd, hs⟩ := Option.bind_eq_some_iff.mp hs
  refine ⟨B, σ, e3, d, s, o3, ?_, hs, fun H' v p => q H' v (p.more (s2.trans s3))⟩
  unfold datR at hd
  split at hd
  · rename_i ds e
    cases hd
    obtain ⟨w, e1, r⟩ := o3.rep i _ e
    rw [hv] at e1; cases e1
    obtain ⟨a, vs, e2, e3', e4⟩ := r
    exact .inr ⟨ds, a, vs, rfl, e2, e3', e4⟩
  · rename_i ds e
    cases hd
    obtain ⟨w, e1, r⟩ := o3.rep i _ e
    rw [hv] at e1; cases e1
    exact .inl r
  · rename_i d' e
    cases hd
    obtain ⟨w, e1, r⟩ := o3.rep i _ e
    rw [hv] at e1; cases e1
    exact .inl (Rep.pk r)
  · cases hd
end
end Ev
end
section
set_option linter.all false
set_option maxRecDepth 100000
set_option maxHeartbeats 2000000
/-! soundness 10: built-ins, methods -/
namespace Ev
open PySem L2

theorem intsD_v {K : Frag} {Av : Addr → Prop} {H : Hp} : ∀ {ds : List D} {l : List Int} {vs : List V}, intsD ds = some l → RepL K Av H ds vs → vs = l.map V.int
  | [], _, _, h, r => by cases h; exact r
  | d :: ds, l, vs, h, r => by
    cases d with
    | int i =>
      obtain ⟨l', h', rfl⟩ := Option.map_eq_some_iff.mp (show (intsD ds).map (i :: ·) = some l from h)
      obtain ⟨v, w, rfl, r1, r2⟩ := r
      rw [show v = V.int i from r1, intsD_v h' r2]; rfl
    | none => cases h
    | bool _ => cases h
    | str _ => cases h
    | list _ => cases h
    | tuple _ => cases h
    | dict _ => cases h
theorem boolsD_v {K : Frag} {Av : Addr → Prop} {H : Hp} : ∀ {ds : List D} {l : List Bool} {vs : List V}, boolsD ds = some l → RepL K Av H ds vs → vs = l.map V.bl
  | [], _, _, h, r => by cases h; exact r
  | d :: ds, l, vs, h, r => by
    cases d with
    | bool i =>
      obtain ⟨l', h', rfl⟩ := Option.map_eq_some_iff.mp (show (boolsD ds).map (i :: ·) = some l from h)
      obtain ⟨v, w, rfl, r1, r2⟩ := r
      rw [show v = V.bl i from r1, boolsD_v h' r2]; rfl
    | none => cases h
    | int _ => cases h
    | str _ => cases h
    | list _ => cases h
    | tuple _ => cases h
    | dict _ => cases h
theorem strsD_v {K : Frag} {Av : Addr → Prop} {H : Hp} : ∀ {ds : List D} {l : List Str} {vs : List V}, strsD ds = some l → RepL K Av H ds vs → vs = l.map V.str
  | [], _, _, h, r => by cases h; exact r
  | d :: ds, l, vs, h, r => by
    cases d with
    | str i =>
      obtain ⟨l', h', rfl⟩ := Option.map_eq_some_iff.mp (show (strsD ds).map (i :: ·) = some l from h)
      obtain ⟨v, w, rfl, r1, r2⟩ := r
      rw [show v = V.str i from r1, strsD_v h' r2]; rfl
    | none => cases h
    | int _ => cases h
    | bool _ => cases h
    | list _ => cases h
    | tuple _ => cases h
    | dict _ => cases h
theorem repI {K : Frag} {Av : Addr → Prop} {H : Hp} : ∀ (l : List Int), RepL K Av H (l.map .int) (l.map V.int)
  | [] => .nil
  | i :: l => .cons rfl (repI l)
theorem repS {K : Frag} {Av : Addr → Prop} {H : Hp} : ∀ (l : List Str), RepL K Av H (l.map .str) (l.map V.str)
  | [] => .nil
  | i :: l => .cons rfl (repS l)

/-! the greatest, the least, sorted -/
theorem maxL_spec : ∀ (xs : List Int) (m : Int), maxL m xs ∈ m :: xs ∧ ∀ y ∈ m :: xs, y ≤ maxL m xs
  | [], m => ⟨by simp [maxL], by simp [maxL]⟩
  | x :: xs, m => by
    obtain ⟨h1, h2⟩ := maxL_spec xs (if x > m then x else m)
    have e : maxL m (x :: xs) = maxL (if x > m then x else m) xs := rfl
    rw [e]
    refine ⟨?_, fun y hy => ?_⟩
    · rcases List.mem_cons.mp h1 with h | h
      · rw [h]; split <;> simp
      · exact List.mem_cons_of_mem _ (List.mem_cons_of_mem _ h)
    · have hm := h2 _ (List.mem_cons_self ..)
      rcases List.mem_cons.mp hy with rfl | hy
      · split at hm <;> rename_i c
        · rw [if_pos c]; omega
        · rw [if_neg c]; exact hm
      · rcases List.mem_cons.mp hy with rfl | hy
        · split at hm <;> rename_i c
          · rw [if_pos c]; exact hm
          · rw [if_neg c]; omega
        · exact h2 y (List.mem_cons_of_mem _ hy)
theorem minL_spec : ∀ (xs : List Int) (m : Int), minL m xs ∈ m :: xs ∧ ∀ y ∈ m :: xs, minL m xs ≤ y
  | [], m => ⟨by simp [minL], by simp [minL]⟩
  | x :: xs, m => by
    obtain ⟨h1, h2⟩ := minL_spec xs (if x < m then x else m)
    have e : minL m (x :: xs) = minL (if x < m then x else m) xs := rfl
    rw [e]
    refine ⟨?_, fun y hy => ?_⟩
    · rcases List.mem_cons.mp h1 with h | h
      · rw [h]; split <;> simp
      · exact List.mem_cons_of_mem _ (List.mem_cons_of_mem _ h)
    · have hm := h2 _ (List.mem_cons_self ..)
      rcases List.mem_cons.mp hy with rfl | hy
      · split at hm <;> rename_i c
        · rw [if_pos c]; omega
        · rw [if_neg c]; exact hm
      · rcases List.mem_cons.mp hy with rfl | hy
        · split at hm <;> rename_i c
          · rw [if_pos c]; exact hm
          · rw [if_neg c]; omega
        · exact h2 y (List.mem_cons_of_mem _ hy)
theorem insI_perm (x : Int) : ∀ l : List Int, (insI x l).Perm (x :: l)
  | [] => .refl _
  | y :: ys => by
    unfold insI
    split
    · exact .refl _
    · exact ((insI_perm x ys).cons y).trans (.swap x y ys)
theorem sortI_perm : ∀ l : List Int, (sortI l).Perm l
  | [] => .refl _
  | x :: xs => (insI_perm x _).trans ((sortI_perm xs).cons x)
theorem insI_sorted (x : Int) : ∀ l : List Int, l.Pairwise (· ≤ ·) → (insI x l).Pairwise (· ≤ ·)
  | [], _ => by simp [insI]
  | y :: ys, h => by
    unfold insI
    rw [List.pairwise_cons] at h
    split
    · rename_i c
      rw [List.pairwise_cons]
      refine ⟨fun z hz => ?_, by rw [List.pairwise_cons]; exact h⟩
      rcases List.mem_cons.mp hz with rfl | hz
      · exact c
      · have := h.1 z hz; omega
    · rename_i c
      rw [List.pairwise_cons]
      refine ⟨fun z hz => ?_, insI_sorted x ys h.2⟩
      have := (insI_perm x ys).mem_iff.mp hz
      rcases List.mem_cons.mp this with rfl | hz
      · omega
      · exact h.1 z hz
theorem sortI_sorted : ∀ l : List Int, (sortI l).Pairwise (· ≤ ·)
  | [] => .nil
  | x :: xs => insI_sorted x _ (sortI_sorted xs)
theorem sorted_eq {a b : List Int} (hp : a.Perm b) (ha : a.Pairwise (· ≤ ·)) (hb : b.Pairwise (· ≤ ·)) : a = b :=
  PySem.W.ksm_same hp ha hb

/-! numbers as texts -/
theorem digR_ok : ∀ (k n : Nat), 0 < k → n < 10 ^ k → (digR k n).reverse = TL.numL n
  | 0, _, h, _ => absurd h (by omega)
  | k + 1, n, _, h => by
    unfold digR
    by_cases c : n < 10
    · rw [if_pos c, TL.numL_lt c]; rfl
    · rw [if_neg c, List.reverse_cons, TL.numL_step (by omega)]
      have hk : 0 < k := by
        rcases Nat.eq_zero_or_pos k with z | z
        · subst z; omega
        · exact z
      rw [digR_ok k (n / 10) hk (by rw [Nat.pow_succ] at h; omega)]
theorem natCs_ok (n : Nat) : natCs n = TL.numL n := by
  unfold natCs
  refine digR_ok _ _ (Nat.succ_pos _) ?_
  have h1 : n < 2 ^ (n.log2 + 1) := Nat.lt_log2_self
  exact Nat.lt_of_lt_of_le h1 (Nat.pow_le_pow_left (by decide) _)

theorem ofString_neg (m : Nat) : (Str.ofString (toString (Int.negSucc m))).cps.toList = 45 :: TL.numL (m + 1) := by
  rw [PyProof.Rows.signs_ofString]
  show (("-" ++ Nat.repr (m + 1)).toList).map Char.toNat = _
  rw [String.toList_append, List.map_append, Nat.toList_repr]
  rfl
theorem intCs_ok (i : Int) : Str.ofString (toString i) = S (intCs i) := by
  apply TL.ext_tl
  show (Str.ofString (toString i)).cps.toList = (intCs i)
  unfold intCs
  cases i with
  | ofNat n =>
    rw [if_neg (show ¬ (Int.ofNat n < 0) from by simp)]
    show (Str.ofString (toString ((n : Nat) : Int))).cps.toList = natCs n
    rw [natCs_ok]; exact TL.tl_num n
  | negSucc m =>
    rw [if_pos (Int.negSucc_lt_zero m), ofString_neg]
    show _ = 45 :: natCs (m + 1)
    rw [natCs_ok]
theorem intOf_ok {x : Str} {n : Int} (h : intOf x = some n) : PySem.intText? x = some n ∧ x.length ≤ 640 := by
  unfold intOf at h
  obtain ⟨h1, rfl⟩ := if_some h
  simp only [Bool.and_eq_true, Bool.not_eq_true', decide_eq_true_eq] at h1
  obtain ⟨⟨h1, h2⟩, h3⟩ := h1
  refine ⟨PySem.intText_digits (x := x) (fun c hc => ?_) (fun z => by rw [show cs x = [] from z] at h1; cases h1) (by omega), h3⟩
  have := List.all_eq_true.mp h2 c hc
  unfold isDig at this
  simp only [Bool.and_eq_true, decide_eq_true_eq] at this
  exact this

section
variable {X : Cx} {M : Mdl} {Fx : Nat → Prop}
/-- a built-in's value -/
def biV : BI → Value
  | .len => .builtin "len" | .abs => .builtin "abs" | .int => .type "int" | .str => .type "str" | .min => .builtin "min" | .max => .builtin "max" | .sum => .builtin "sum"
  | .all => .builtin "all" | .any => .builtin "any" | .sorted => .builtin "sorted" | .list => .type "list" | .tuple => .type "tuple" | .set => .type "set" | .range => .type "range" | .repr => .builtin "repr"
theorem pk1 {K : Frag} {Av : Addr → Prop} {H : Hp} {d : D} {xs : List V} (h : PkL K Av H [d] xs) : ∃ v, xs = [v] ∧ Pk K Av H d v := by
  obtain ⟨v, r, rfl, h1, h2⟩ := h
  cases h2
  exact ⟨v, rfl, h1⟩
theorem pk2 {K : Frag} {Av : Addr → Prop} {H : Hp} {d e : D} {xs : List V} (h : PkL K Av H [d, e] xs) : ∃ v w, xs = [v, w] ∧ Pk K Av H d v ∧ Pk K Av H e w := by
  obtain ⟨v, r, rfl, h1, w, r2, rfl, h2, h3⟩ := h
  cases h3
  exact ⟨v, w, rfl, h1, h2⟩
theorem cs_len (z : Str) : (cs z).length = z.length := by simp [cs, Str.length]
theorem cr_bi (hK : X.K = M.K) (hc : X.calm = true) (b : BI) : CallR X (biV b) (CallD M Fx (biD b)) := by
  intro pins s σ' H xs us Q I ru ⟨B, σ, env, ds, sl, ok, px, hg, q⟩
  unfold biD at hg
  split at hg
  · -- len
    obtain ⟨v, rfl, p⟩ := pk1 px
    obtain ⟨d, hd, rfl⟩ := Option.map_eq_some_iff.mp hg
    unfold lenD at hd
    split at hd
    · cases hd
      obtain ⟨a, vs, rfl, e, r⟩ := p
      exact call_len_seq pins s σ' H _ us Q I ru ⟨a, vs, rfl, .inl (SqL_of e), by rw [← r.length]; exact q _ _ (Post.val ok Step.refl rfl)⟩
    · cases hd
      obtain ⟨a, vs, rfl, e, r⟩ := p
      exact call_len_seq pins s σ' H _ us Q I ru ⟨a, vs, rfl, .inr (by rw [hK]; exact e), by rw [← r.length]; exact q _ _ (Post.val ok Step.refl rfl)⟩
    · obtain ⟨hz, rfl⟩ := if_some hd
      cases p
      exact call_len_str pins s σ' H _ us Q I ru ⟨_, rfl, of_decide_eq_true hz, by rw [← cs_len]; exact q _ _ (Post.val ok Step.refl rfl)⟩
    · cases hd
  · cases hg
    obtain ⟨v, rfl, p⟩ := pk1 px
    cases p
    exact call_abs pins s σ' H _ us Q I ru ⟨_, rfl, q _ _ (Post.val ok Step.refl rfl)⟩
  · cases hg
    obtain ⟨v, rfl, p⟩ := pk1 px
    cases p
    exact call_int1 pins s σ' H _ us Q I ru (.inl ⟨_, rfl, q _ _ (Post.val ok Step.refl rfl)⟩)
  · cases hg
    obtain ⟨v, rfl, p⟩ := pk1 px
    cases p
    exact call_int1 pins s σ' H _ us Q I ru (.inr ⟨_, rfl, q _ _ (Post.val ok Step.refl rfl)⟩)
  · obtain ⟨v, rfl, p⟩ := pk1 px
    obtain ⟨n, hn, rfl⟩ := Option.map_eq_some_iff.mp hg
    cases p
    obtain ⟨h1, h2⟩ := intOf_ok hn
    exact call_int_str pins s σ' H _ us Q I ru ⟨_, n, rfl, h1, h2, q _ _ (Post.val ok Step.refl rfl)⟩
  · obtain ⟨hz, rfl⟩ := if_some hg
    obtain ⟨v, rfl, p⟩ := pk1 px
    cases p
    refine call_str_int pins s σ' H _ us Q I ru ⟨_, rfl, ?_, ?_⟩
    · unfold numOk at hz; simpa using hz
    · exact q _ _ (Post.val ok Step.refl (by show V.str _ = V.str _; rw [intCs_ok]))
  · cases hg
    obtain ⟨v, w, rfl, p1, p2⟩ := pk2 px
    cases p1; cases p2
    exact call_max2 hc pins s σ' H _ us Q I ru ⟨_, _, rfl, q _ _ (Post.val ok Step.refl rfl)⟩
  · cases hg
    obtain ⟨v, w, rfl, p1, p2⟩ := pk2 px
    cases p1; cases p2
    exact call_min2 hc pins s σ' H _ us Q I ru ⟨_, _, rfl, q _ _ (Post.val ok Step.refl rfl)⟩
  · obtain ⟨v, rfl, p⟩ := pk1 px
    split at hg
    · rename_i _ y ys hl
      cases hg
      obtain ⟨a, vs, rfl, e, r⟩ := p
      have ev := intsD_v hl r
      subst ev
      obtain ⟨m1, m2⟩ := maxL_spec ys y
      refine cr_max hc pins s σ' H _ us Q I ru ⟨a, y :: ys, rfl, SqL_of e, by simp, fun m hm hy => ?_⟩
      have : m = maxL y ys := Int.le_antisymm (m2 m hm) (hy _ m1)
      rw [this]
      exact q _ _ (Post.val ok Step.refl rfl)
    · cases hg
  · obtain ⟨v, rfl, p⟩ := pk1 px
    split at hg
    · rename_i _ y ys hl
      cases hg
      obtain ⟨a, vs, rfl, e, r⟩ := p
      have ev := intsD_v hl r
      subst ev
      obtain ⟨m1, m2⟩ := minL_spec ys y
      refine cr_min hc pins s σ' H _ us Q I ru ⟨a, y :: ys, rfl, SqL_of e, by simp, fun m hm hy => ?_⟩
      have : m = minL y ys := Int.le_antisymm (hy _ m1) (m2 m hm)
      rw [this]
      exact q _ _ (Post.val ok Step.refl rfl)
    · cases hg
  · obtain ⟨v, rfl, p⟩ := pk1 px
    split at hg
    · rename_i _ y ys hl
      cases hg
      obtain ⟨a, vs, rfl, e, r⟩ := p
      have ev := intsD_v hl r
      subst ev
      obtain ⟨m1, m2⟩ := maxL_spec ys y
      refine cr_maxT hc pins s σ' H _ us Q I ru ⟨a, y :: ys, rfl, by rw [hK]; exact e, by simp, fun m hm hy => ?_⟩
      have : m = maxL y ys := Int.le_antisymm (m2 m hm) (hy _ m1)
      rw [this]
      exact q _ _ (Post.val ok Step.refl rfl)
    · cases hg
  · obtain ⟨v, rfl, p⟩ := pk1 px
    split at hg
    · rename_i _ y ys hl
      cases hg
      obtain ⟨a, vs, rfl, e, r⟩ := p
      have ev := intsD_v hl r
      subst ev
      obtain ⟨m1, m2⟩ := minL_spec ys y
      refine cr_minT hc pins s σ' H _ us Q I ru ⟨a, y :: ys, rfl, by rw [hK]; exact e, by simp, fun m hm hy => ?_⟩
      have : m = minL y ys := Int.le_antisymm (hy _ m1) (m2 m hm)
      rw [this]
      exact q _ _ (Post.val ok Step.refl rfl)
    · cases hg
  · obtain ⟨v, rfl, p⟩ := pk1 px
    obtain ⟨l, hl, rfl⟩ := Option.map_eq_some_iff.mp hg
    obtain ⟨a, vs, rfl, e, r⟩ := p
    have ev := intsD_v hl r
    subst ev
    exact cr_sum hc pins s σ' H _ us Q I ru ⟨a, l, rfl, SqL_of e, q _ _ (Post.val ok Step.refl rfl)⟩
  · obtain ⟨v, rfl, p⟩ := pk1 px
    obtain ⟨l, hl, rfl⟩ := Option.map_eq_some_iff.mp hg
    obtain ⟨a, vs, rfl, e, r⟩ := p
    have ev := intsD_v hl r
    subst ev
    exact cr_sumT hc pins s σ' H _ us Q I ru ⟨a, l, rfl, by rw [hK]; exact e, q _ _ (Post.val ok Step.refl rfl)⟩
  · obtain ⟨v, rfl, p⟩ := pk1 px
    obtain ⟨l, hl, rfl⟩ := Option.map_eq_some_iff.mp hg
    obtain ⟨a, vs, rfl, e, r⟩ := p
    have ev := boolsD_v hl r
    subst ev
    exact cr_all hc pins s σ' H _ us Q I ru ⟨a, l, rfl, SqL_of e, q _ _ (Post.val ok Step.refl rfl)⟩
  · obtain ⟨v, rfl, p⟩ := pk1 px
    obtain ⟨l, hl, rfl⟩ := Option.map_eq_some_iff.mp hg
    obtain ⟨a, vs, rfl, e, r⟩ := p
    have ev := boolsD_v hl r
    subst ev
    exact cr_any hc pins s σ' H _ us Q I ru ⟨a, l, rfl, SqL_of e, q _ _ (Post.val ok Step.refl rfl)⟩
  · obtain ⟨v, rfl, p⟩ := pk1 px
    obtain ⟨l, hl, rfl⟩ := Option.map_eq_some_iff.mp hg
    obtain ⟨a, vs, rfl, e, r⟩ := p
    have ev := intsD_v hl r
    subst ev
    refine cr_sortedI pins s σ' H _ us Q I ru ⟨a, l, rfl, SqL_of e, fun ns' p hp ho hn => ?_⟩
    have : ns' = sortI l := sorted_eq (hp.trans (sortI_perm l).symm) ho (sortI_sorted l)
    subst this
    exact fin_lst ok q (repI _) p hn
  · obtain ⟨v, rfl, p⟩ := pk1 px
    obtain ⟨l, hl, rfl⟩ := Option.map_eq_some_iff.mp hg
    obtain ⟨a, vs, rfl, e, r⟩ := p
    have ev := intsD_v hl r
    subst ev
    refine SetZ.cr_sortedTI pins s σ' H _ us Q I ru ⟨a, l, rfl, by rw [hK]; exact e, fun ns' p hp ho hn => ?_⟩
    have : ns' = sortI l := sorted_eq (hp.trans (sortI_perm l).symm) ho (sortI_sorted l)
    subst this
    exact fin_lst ok q (repI _) p hn
  · cases hg
    obtain ⟨v, rfl, p⟩ := pk1 px
    obtain ⟨a, vs, rfl, e, r⟩ := p
    exact call_list_of pins s σ' H _ us Q I ru ⟨a, vs, rfl, .inl (SqL_of e), fin_lst ok q r⟩
  · cases hg
    obtain ⟨v, rfl, p⟩ := pk1 px
    obtain ⟨a, vs, rfl, e, r⟩ := p
    exact call_list_of pins s σ' H _ us Q I ru ⟨a, vs, rfl, .inr (by rw [hK]; exact e), fin_lst ok q r⟩
  · cases hg
    obtain ⟨v, rfl, p⟩ := pk1 px
    obtain ⟨a, vs, rfl, e, r⟩ := p
    exact call_tuple_of pins s σ' H _ us Q I ru ⟨a, vs, rfl, .inl ⟨SqL_of e, fin_tup ok q r⟩⟩
  · cases hg
    obtain ⟨v, rfl, p⟩ := pk1 px
    obtain ⟨a, vs, rfl, e, r⟩ := p
    exact call_tuple_of pins s σ' H _ us Q I ru ⟨a, vs, rfl, .inr ⟨by rw [hK]; exact e, q _ _ (Post.val ok Step.refl ⟨a, vs, rfl, e, r⟩)⟩⟩
  · cases hg

/-! ### methods -/
theorem cut_spl (c : Nat) : ∀ (l acc : List Nat), cut c acc l = TL.spl [c] 0 acc.reverse l
  | [], acc => rfl
  | x :: l, acc => by
    unfold cut
    rw [TL.spl]
    by_cases e : x = c
    · subst e
      have : TL.pre [x] (x :: l) = true := by simp [TL.pre]
      rw [if_pos rfl, if_pos this, cut_spl x l []]
      rfl
    · have : ¬ TL.pre [c] (x :: l) = true := by simp [TL.pre]; exact fun z => e (by first | exact z | exact z.symm)
      rw [if_neg e, if_neg this, cut_spl c l (x :: acc), List.reverse_cons]
theorem joinL_eq (a : List Nat) : ∀ l : List (List Nat), joinL a l = TL.joinL a l
  | [] => rfl
  | [x] => rfl
  | x :: y :: r => by
    show x ++ (a ++ joinL a (y :: r)) = x ++ (a ++ TL.joinL a (y :: r))
    rw [joinL_eq a (y :: r)]
def mbV : MB → String
  | .split => "str.split" | .join => "str.join" | .partition => "str.partition" | .index => "list.index" | .count => "list.count" | .replace => "str.replace"
def mbT : MB → String
  | .split => "str" | .join => "str" | .partition => "str" | .index => "list" | .count => "list" | .replace => "str"
def MetD (M : Mdl) (Fx : Nat → Prop) (g : D → List D → Option Slot) : V → List V → Hp → VK → Prop := fun x xs H Q => ∃ B σ env dx ds s, EnvOk M.K B H σ env ∧ Pk M.K (Avd B σ env) H dx x ∧ PkL M.K (Avd B σ env) H ds xs ∧ g dx ds = some s ∧
  ∀ H' v, Post M.K B Fx σ env H env H' s v → Q v H'
theorem S_cs (z : Str) : S (cs z) = z := TL.ext_tl rfl
theorem cs_one {y : Str} {c : Nat} (h : cs y = [c]) : y = S [c] := by rw [← h, S_cs]
theorem pos_ok {x : D} (fx : flat x = true) : ∀ {ys : List D} {k n : Nat}, ys.all flat = true → posOf x ys k = some n → ∃ j z, n = k + j ∧ ys[j]? = some z ∧ eqV (vOf z) (vOf x) = true ∧ ∀ m z', m < j → ys[m]? = some z' → eqV (vOf z') (vOf x) = false
  | [], _, _, _, h => by cases h
  | y :: ys, k, n, f, h => by
    rw [List.all_cons, Bool.and_eq_true] at f
    unfold posOf at h
    by_cases e : PyData.eqv y x = true
    · rw [if_pos e] at h
      cases h
      exact ⟨0, y, rfl, rfl, by rw [flat_eqv f.1 fx]; exact e, fun m _ hm => absurd hm (by omega)⟩
    · rw [if_neg e] at h
      obtain ⟨j, z, h1, h2, h3, h4⟩ := pos_ok fx f.2 h
      refine ⟨j + 1, z, by omega, by simpa using h2, h3, fun m z' hm hz => ?_⟩
      cases m with
      | zero =>
        simp at hz; subst hz
        rw [flat_eqv f.1 fx]
        simpa using e
      | succ m => exact h4 m z' (by omega) (by simpa using hz)
theorem mr_mb (hK : X.K = M.K) (m : MB) : MtR X (mbV m) (MetD M Fx (mbD m)) := by
  intro pins s σ' H x xs v us Q I rx ru ⟨B, σ, env, dx, ds, sl, ok, px, pxs, hg, q⟩
  unfold mbD at hg
  split at hg
  · obtain ⟨w, rfl, p⟩ := pk1 pxs
    split at hg
    · rename_i c hcs
      obtain ⟨hz, rfl⟩ := if_some hg
      simp only [Bool.and_eq_true, decide_eq_true_eq] at hz
      cases px; cases p
      have ey := cs_one hcs
      rename_i a b _
      refine mt_split pins s σ' H _ _ v us Q I rx ru ⟨_, _, rfl, rfl, ?_, hz.1, ?_⟩
      · rw [ey]; rfl
      · have hsp : ∀ z : Str, Txt.split z (S [c]) = (cut c [] (cs z)).map S := fun z => by
          have := SX.split_S (a := cs z) (b := [c]) (by simp) (by simp [hz.2])
          rw [show SX.S (cs z) = z from S_cs z] at this
          rw [cut_spl]; exact this
        rw [ey, hsp]
        intro p hp
        have e : (List.map S (cut c [] (cs a))).map V.str = (cut c [] (cs a)).map fun w => V.str (S w) := by rw [List.map_map]; rfl
        have r : RepL M.K (Avd B σ env) H ((cut c [] (cs a)).map fun w => PyData.str (S w)) ((cut c [] (cs a)).map fun w => V.str (S w)) := by
          have := repS (K := M.K) (Av := Avd B σ env) (H := H) ((cut c [] (cs a)).map S)
          rw [List.map_map, List.map_map] at this
          exact this
        rw [e]
        exact fin_lst ok q r p hp
    · cases hg
  · obtain ⟨w, rfl, p⟩ := pk1 pxs
    split at hg
    · rename_i zs hzs
      obtain ⟨hz, rfl⟩ := if_some hg
      cases px
      obtain ⟨a, vs, rfl, e, r⟩ := p
      have ev := strsD_v hzs r
      subst ev
      refine mt_join pins s σ' H _ _ v us Q I rx ru ⟨_, a, zs, rfl, rfl, .inl (SqL_of e), of_decide_eq_true hz, ?_⟩
      refine q _ _ (Post.val ok Step.refl ?_)
      rename_i z _ _
      show V.str (Txt.join z zs) = V.str (S (joinL (cs z) (zs.map cs)))
      have hj := SX.join_S (cs z) (zs.map cs)
      have e1 : (zs.map cs).map SX.S = zs := by
        rw [List.map_map]
        have : (SX.S ∘ cs) = id := by funext y; exact S_cs y
        rw [this, List.map_id]
      rw [e1, show SX.S (cs z) = z from S_cs z] at hj
      rw [hj, joinL_eq]; rfl
    · cases hg
  · obtain ⟨w, rfl, p⟩ := pk1 pxs
    obtain ⟨hz, hg⟩ := if_some'' hg
    simp only [Bool.and_eq_true] at hz
    obtain ⟨n, hn, rfl⟩ := Option.map_eq_some_iff.mp hg
    obtain ⟨a, vs, rfl, e, r⟩ := px
    have ev := flat_repL hz.2 r
    subst ev
    have ew := flat_v hz.1 p
    subst ew
    obtain ⟨j, z, h1, h2, h3, h4⟩ := pos_ok hz.1 hz.2 hn
    refine mt_index pins s σ' H _ _ v us Q I rx ru ⟨a, _, _, j, vOf z, rfl, rfl, SqL_of e, flatV_vOf hz.1, flat_all hz.2, by rw [List.getElem?_map, h2]; rfl, h3, fun m z' hm hz' => ?_, ?_⟩
    · rw [List.getElem?_map] at hz'
      obtain ⟨y, hy, rfl⟩ := Option.map_eq_some_iff.mp hz'
      exact h4 m y hm hy
    · rw [Nat.zero_add] at h1
      subst h1
      exact q _ _ (Post.val ok Step.refl rfl)
  · cases hg
where if_some'' : ∀ {b : Bool} {x : Option Slot} {y : Slot}, (if b = true then x else none) = some y → b = true ∧ x = some y
  | true, _, _, h => ⟨rfl, h⟩
  | false, _, _, h => by cases h
end
end Ev
end
section
set_option linter.all false
set_option maxRecDepth 100000
set_option maxHeartbeats 2000000
/-! soundness 11: calls of built-ins, the last statements -/
namespace Ev
open PySem L2

section
variable {M : Mdl} {W : WX} {Fx : Nat → Prop} {X : Cx} {C : Ctx} {pos : Pos}
theorem ev_nil : PA X [] (LsR M W Fx (evs C [])) := pa_weak pa_nil fun σ H Q ⟨B, env, ok, h⟩ => h H [] ok Step.refl .nil
theorem ev_cons {e : Expr} {es : List Expr} {m : Ex} {ms : List Ex} (hs : starEach (e :: es) X.env = (false, eval e X.env) :: starEach es X.env) (he : PE X e (EvR M W Fx (m C))) (hr : PA X es (LsR M W Fx (evs C ms))) : PA X (e :: es) (LsR M W Fx (evs C (m :: ms))) := by
  refine pa_weak (pa_cons he hr hs) fun σ H Q ⟨B, env, ok, h⟩ => ?_
  refine EvR.val ok h fun d e1 H1 x ok1 st1 r1 q => ?_
  refine LsR.then ok1 q fun ds e2 H2 vs ok2 st2 r2 q => ?_
  exact q H2 (x :: vs) ok2 (st1.trans st2) (.cons (r1.step ok1 st2) r2)

theorem sd_bi {e0 : Expr} {es : List Expr} {b : BI} {ms : List Ex} (ha : PA X es (LsR M W Fx (evs C ms))) (he : PA X es (LsR M W Fx (evs C ms)) → PE X e0 (tCB (CallD M Fx (biD b)) (LsR M W Fx (evs C ms)))) : PE X e0 (EvR M W Fx (cBi b ms C)) := by
  refine pe_weak (he ha) fun σ H Q ⟨B, env, ok, h⟩ => ?_
  refine LsR.then ok h fun ds e1 H1 vs o1 s1 r1 q => ?_
  obtain ⟨s, hs, q⟩ := RRun.opt.mp q
  exact ⟨B, σ, e1, ds, s, o1, r1.pk, hs, fun H' v p => q H' v (p.more s1)⟩
theorem sd_biV {e0 : Expr} {b : BI} {i : Nat} (he : PE X e0 (tCB (CallD M Fx (biD b)) (tCons (tVar i) tNil))) : PE X e0 (EvR M W Fx (cBiV b i C)) := by
  refine pe_weak he fun σ H Q ⟨B, env, ok, h⟩ => ?_
  obtain ⟨s, hs, q⟩ := RRun.opt.mp h
  obtain ⟨d, hd, hs⟩ := Option.bind_eq_some_iff.mp hs
  obtain ⟨v, e1, r⟩ := datV_pk ok hd
  exact ⟨v, e1, B, σ, env, [d], s, ok, ⟨v, [], rfl, r, rfl⟩, hs, q⟩

theorem recv_ty {K : Frag} {Av : Addr → Prop} {H : Hp} {m : MB} {d : D} {v : V} (h : recv m d = some ()) (r : Pk K Av H d v) : tyV K (mbT m) v H := by
  unfold recv at h
  split at h <;> first | cases h | skip
  · obtain ⟨a, vs, rfl, e, _⟩ := r; exact .inl ⟨rfl, vs, SqL_of e⟩
  · obtain ⟨a, vs, rfl, e, _⟩ := r; exact .inl ⟨rfl, vs, SqL_of e⟩
  · cases r
    cases m <;> first | rfl | simp_all
theorem sd_mb {e0 o : Expr} {es : List Expr} {m : MB} {mo : Ex} {ms : List Ex} (hK : X.K = M.K) (ho : PE X o (EvR M W Fx (mo C))) (ha : PA X es (LsR M W Fx (evs C ms)))
    (he : PE X o (EvR M W Fx (mo C)) → PA X es (LsR M W Fx (evs C ms)) → PE X e0 (tBM X.K (mbT m) (MetD M Fx (mbD m)) (EvR M W Fx (mo C)) (LsR M W Fx (evs C ms)))) : PE X e0 (EvR M W Fx (cMb m mo ms C)) := by
  refine pe_weak (he ho ha) fun σ H Q ⟨B, env, ok, h⟩ => ?_
  refine EvR.val ok h fun d e1 H1 x o1 s1 r1 q => ?_
  rw [RRun.bind, RRun.opt] at q
  obtain ⟨_, hr, q⟩ := q
  refine ⟨by rw [hK]; exact recv_ty hr r1.pk, ?_⟩
  refine LsR.then o1 q fun ds e2 H2 vs o2 s2 r2 q => ?_
  obtain ⟨s, hs, q⟩ := RRun.opt.mp q
  exact ⟨B, σ, e2, d, ds, s, o2, (r1.step o1 s2).pk, r2.pk, hs, fun H' v p => q H' v (p.more (s1.trans s2))⟩
theorem sd_mbV {e0 o : Expr} {es : List Expr} {m : MB} {i : Nat} {ms : List Ex} (hK : X.K = M.K) (ho : PE X o (tVar i)) (ha : PA X es (LsR M W Fx (evs C ms)))
    (he : PE X o (tVar i) → PA X es (LsR M W Fx (evs C ms)) → PE X e0 (tBM X.K (mbT m) (MetD M Fx (mbD m)) (tVar i) (LsR M W Fx (evs C ms)))) : PE X e0 (EvR M W Fx (cMbV m i ms C)) := by
  refine pe_weak (he ho ha) fun σ H Q ⟨B, env, ok, h⟩ => ?_
  unfold cMbV at h
  rw [RRun.bind, RRun.opt] at h
  obtain ⟨_, hr, q⟩ := h
  obtain ⟨d0, hd0, hr⟩ := Option.bind_eq_some_iff.mp hr
  obtain ⟨v, e1, r0⟩ := datV_pk ok hd0
  refine ⟨v, e1, by rw [hK]; exact recv_ty hr r0, ?_⟩
  refine LsR.then ok q fun ds e2 H2 vs o2 s2 r2 q => ?_
  obtain ⟨s, hs, q⟩ := RRun.opt.mp q
  obtain ⟨d, hd, hs⟩ := Option.bind_eq_some_iff.mp hs
  obtain ⟨v', e3, r⟩ := datV_pk o2 hd
  rw [e1] at e3; cases e3
  exact ⟨B, σ, e2, d, ds, s, o2, r, r2.pk, hs, fun H' v p => q H' v (p.more s2)⟩

/-! ### isinstance -/
def tyN : Ty → String
  | .int => "int" | .bool => "bool" | .str => "str" | .list => "list" | .tuple => "tuple" | .cls _ => ""
def tyNat : D → String
  | .none => "NoneType" | .bool _ => "bool" | .int _ => "int" | .str _ => "str" | .list _ => "list" | .tuple _ => "tuple" | .dict _ => ""
def tyOk : Ty → Bool
  | .cls _ => false
  | _ => true
theorem kit_all : ∀ (n : _root_.Fin 6) (t : _root_.Fin 5), kitB (["NoneType", "bool", "int", "str", "list", "tuple"].getD n.val "") (["int", "bool", "str", "list", "tuple"].getD t.val "") =
    some (([[false, false, false, false, false], [true, true, false, false, false], [true, false, false, false, false], [false, false, true, false, false], [false, false, false, true, false], [false, false, false, false, true]].getD n.val []).getD t.val false) := by decide +kernel
theorem kit_d {d : D} {t : Ty} (hd : ∀ kvs, d ≠ .dict kvs) (ht : tyOk t = true) : kitB (tyNat d) (tyN t) = some (isTy d t) := by
  cases d with
  | dict kvs => exact absurd rfl (hd kvs)
  | none => cases t with
    | cls _ => cases ht
    | int => exact kit_all 0 0
    | bool => exact kit_all 0 1
    | str => exact kit_all 0 2
    | list => exact kit_all 0 3
    | tuple => exact kit_all 0 4
  | bool _ => cases t with
    | cls _ => cases ht
    | int => exact kit_all 1 0
    | bool => exact kit_all 1 1
    | str => exact kit_all 1 2
    | list => exact kit_all 1 3
    | tuple => exact kit_all 1 4
  | int _ => cases t with
    | cls _ => cases ht
    | int => exact kit_all 2 0
    | bool => exact kit_all 2 1
    | str => exact kit_all 2 2
    | list => exact kit_all 2 3
    | tuple => exact kit_all 2 4
  | str _ => cases t with
    | cls _ => cases ht
    | int => exact kit_all 3 0
    | bool => exact kit_all 3 1
    | str => exact kit_all 3 2
    | list => exact kit_all 3 3
    | tuple => exact kit_all 3 4
  | list _ => cases t with
    | cls _ => cases ht
    | int => exact kit_all 4 0
    | bool => exact kit_all 4 1
    | str => exact kit_all 4 2
    | list => exact kit_all 4 3
    | tuple => exact kit_all 4 4
  | tuple _ => cases t with
    | cls _ => cases ht
    | int => exact kit_all 5 0
    | bool => exact kit_all 5 1
    | str => exact kit_all 5 2
    | list => exact kit_all 5 3
    | tuple => exact kit_all 5 4
theorem kit_any {K : Frag} {d : D} (hd : ∀ kvs, d ≠ .dict kvs) : ∀ {ts : List Ty}, ts.all tyOk = true → PySem.W.kitAny K (.type (tyNat d)) (ts.map fun t => .type (tyN t)) = some (ts.any (isTy d))
  | [], _ => rfl
  | t :: ts, h => by
    rw [List.all_cons, Bool.and_eq_true] at h
    refine kitAny_cons (kit_ty (kit_d hd h.1)) (fun hb => ?_) fun hb => ?_
    · rw [List.any_cons, hb, Bool.false_or]; exact kit_any hd h.2
    · rw [List.any_cons, hb, Bool.true_or]
theorem gIsi_nd {ts : List Ty} {d : D} {s : Slot} (h : gIsi ts d = some s) : (∀ kvs, d ≠ .dict kvs) ∧ s = .val (.bool (ts.any (isTy d))) := by
  unfold gIsi at h
  cases d with
  | dict _ => cases h
  | _ => exact ⟨fun kvs z => (by cases z), (Option.some.inj h).symm⟩
theorem pk_ty {K : Frag} {Av : Addr → Prop} {H : Hp} {d : D} {v : V} (hd : ∀ kvs, d ≠ .dict kvs) (r : Pk K Av H d v) : TyX K H v (.type (tyNat d)) := by
  cases d with
  | none => rw [show v = V.non from r]; exact .base .non
  | bool b => rw [show v = V.bl b from r]; exact .base (.bl b)
  | int b => rw [show v = V.int b from r]; exact .base (.int b)
  | str b => rw [show v = V.str b from r]; exact .base (.str b)
  | list b => obtain ⟨a, vs, rfl, e, _⟩ := r; exact .base (.lst e)
  | tuple b =>
    obtain ⟨a, vs, rfl, e, _⟩ := r
    rcases e with (e | ⟨o, e⟩) | ⟨o, its, n, e, c, _⟩
    · exact .base (.tup e)
    · exact .fTuple e
    · exact .kTuple e c
  | dict b => exact absurd rfl (hd b)

theorem boot_ty {t : Ty} (h : tyOk t = true) : bootBuiltins (Str.ofString (tyN t)) = some (.type (tyN t)) := by
  cases t with
  | cls _ => cases h
  | int => decide +kernel
  | bool => decide +kernel
  | str => decide +kernel
  | list => decide +kernel
  | tuple => decide +kernel
/-- isinstance(x, T) -/
theorem call_isi1 {xs : List V} {t : Ty} (hK : X.K = M.K) (ht : tyOk t = true) : CallR X (.builtin "isinstance") (fun xs H Q => ∃ x, xs = [x, .ty (tyN t)] ∧ UnD M Fx (gIsi [t]) x H Q) := by
  intro pins s σ' H xs us Q I ru ⟨x, hx, B, σ, env, d, sl, ok, r, hg, q⟩
  subst hx
  obtain ⟨hnd, rfl⟩ := gIsi_nd hg
  refine call_isi pins s σ' H _ us Q I ru ⟨x, .ty (tyN t), .type (tyNat d), .type (tyN t), isTy d t, rfl, .ty _, by rw [hK]; exact pk_ty hnd r, kit_ty (kit_d hnd ht), ?_⟩
  have : ([t].any (isTy d)) = isTy d t := by simp
  rw [this] at q
  exact q H _ (Post.val ok Step.refl rfl)
theorem call_isiN {ts : List Ty} (hK : X.K = M.K) (ht : ts.all tyOk = true) : CallR X (.builtin "isinstance") (fun xs H Q => ∃ x tp, xs = [x, .ref tp] ∧ H tp = some (.tup (ts.map fun t => V.ty (tyN t))) ∧ UnD M Fx (gIsi ts) x H Q) := by
  intro pins s σ' H xs us Q I ru ⟨x, tp, hx, hT, B, σ, env, d, sl, ok, r, hg, q⟩
  subst hx
  obtain ⟨hnd, rfl⟩ := gIsi_nd hg
  have hp : ∀ ts : List Ty, Paired ClsV (ts.map fun t => V.ty (tyN t)) (ts.map fun t => Value.type (tyN t)) := fun ts => by
    induction ts with
    | nil => exact .nil
    | cons t ts ih => exact .cons (.ty _) ih
  exact call_isiT pins s σ' H _ us Q I ru ⟨x, tp, _, .type (tyNat d), _, _, rfl, hT, hp ts, by rw [hK]; exact pk_ty hnd r, kit_any ((gIsi_nd hg).1) ht, q H _ (Post.val ok Step.refl rfl)⟩
/-- the reading of a first argument, then what stands -/
theorem sd_isi1 {e0 a b : Expr} {ma : Ex} {t : Ty} (ha : PE X a (EvR M W Fx (ma C))) (he : PE X a (EvR M W Fx (ma C)) → PE X e0 (tCB (fun xs H Q => ∃ x, xs = [x, .ty (tyN t)] ∧ UnD M Fx (gIsi [t]) x H Q) (tCons (EvR M W Fx (ma C)) (tCons (tC (.ty (tyN t))) tNil)))) :
    PE X e0 (EvR M W Fx (cIsi [t] ma C)) := by
  refine pe_weak (he ha) fun σ H Q ⟨B, env, ok, h⟩ => ?_
  refine EvR.val ok h fun d e1 H1 x o1 s1 r1 q => ?_
  obtain ⟨s, hs, q⟩ := RRun.opt.mp q
  exact ⟨x, rfl, B, σ, e1, d, s, o1, r1.pk, hs, fun H' v p => q H' v (p.more s1)⟩
theorem sd_isi1V {e0 : Expr} {i : Nat} {t : Ty} (he : PE X e0 (tCB (fun xs H Q => ∃ x, xs = [x, .ty (tyN t)] ∧ UnD M Fx (gIsi [t]) x H Q) (tCons (tVar i) (tCons (tC (.ty (tyN t))) tNil)))) : PE X e0 (EvR M W Fx (cIsiV [t] i C)) := by
  refine pe_weak he fun σ H Q ⟨B, env, ok, h⟩ => ?_
  obtain ⟨s, hs, q⟩ := RRun.opt.mp h
  obtain ⟨d, hd, hs⟩ := Option.bind_eq_some_iff.mp hs
  obtain ⟨v, e1, r⟩ := datV_pk ok hd
  exact ⟨v, e1, v, rfl, B, σ, env, d, s, ok, r, hs, q⟩
/-- a display of built-in classes -/
def tTys : List Ty → TA
  | [] => tNil
  | t :: ts => tCons (tC (.ty (tyN t))) (tTys ts)
theorem tTys_run {σ : St} {H : Hp} {Q : List V → Hp → Prop} : ∀ {ts : List Ty}, Q (ts.map fun t => V.ty (tyN t)) H → tTys ts σ H Q
  | [], h => h
  | t :: ts, h => by
    show tC (.ty (tyN t)) σ H fun x H1 => tTys ts σ H1 fun xs H2 => Q (x :: xs) H2
    exact tTys_run (ts := ts) (Q := fun xs H2 => Q (.ty (tyN t) :: xs) H2) h
theorem UnD.new {g : D → Option Slot} {x : V} {H : Hp} {Q : VK} {tp : Addr} {B : Addr → Prop} {σ : St} {env : Env} {d : D} {s : Slot} (hp : H tp = none) {o : HO} (ok : EnvOk M.K B H σ env) (r : Pk M.K (Avd B σ env) H d x) (hs : g d = some s)
    (q : ∀ H' v, Post M.K B Fx σ env H env H' s v → Q v H') : UnD M Fx g x (upd H tp o) Q := by
  refine ⟨B, σ, env, d, s, ok.new hp, ?_, hs, fun H' v p => q H' v (p.more (Step.new hp))⟩
  cases d with
  | list ds => obtain ⟨a, vs, e1, e2, e3⟩ := r; exact ⟨a, vs, e1, lst_new hp e2, e3.new hp⟩
  | none => exact Rep.new (K := M.K) (Av := Avd B σ env) (o := o) hp (d := .none) r
  | bool b => exact Rep.new (K := M.K) (Av := Avd B σ env) (o := o) hp (d := .bool b) r
  | int b => exact Rep.new (K := M.K) (Av := Avd B σ env) (o := o) hp (d := .int b) r
  | str b => exact Rep.new (K := M.K) (Av := Avd B σ env) (o := o) hp (d := .str b) r
  | tuple b => exact Rep.new (K := M.K) (Av := Avd B σ env) (o := o) hp (d := .tuple b) r
  | dict b => exact Rep.new (K := M.K) (Av := Avd B σ env) (o := o) hp (d := .dict b) r
theorem sd_isiN {e0 a : Expr} {ma : Ex} {ts : List Ty} (hz : ts.length ≤ 10) (ha : PE X a (EvR M W Fx (ma C))) (he : PE X a (EvR M W Fx (ma C)) → PE X e0 (tCB (fun xs H Q => ∃ x tp, xs = [x, .ref tp] ∧ H tp = some (.tup (ts.map fun t => V.ty (tyN t))) ∧ UnD M Fx (gIsi ts) x H Q) (tCons (EvR M W Fx (ma C)) (tCons (tTup (tTys ts)) tNil)))) :
    PE X e0 (EvR M W Fx (cIsi ts ma C)) := by
  refine pe_weak (he ha) fun σ H Q ⟨B, env, ok, h⟩ => ?_
  refine EvR.val ok h fun d e1 H1 x o1 s1 r1 q => ?_
  obtain ⟨s, hs, q⟩ := RRun.opt.mp q
  refine tTys_run ⟨by rw [List.length_map, sizeLine_eq]; omega, fun p hp => ⟨x, p, rfl, upd_same, UnD.new hp o1 r1.pk hs fun H' v p => q H' v (p.more s1)⟩⟩
theorem sd_isiNV {e0 : Expr} {i : Nat} {ts : List Ty} (hz : ts.length ≤ 10) (he : PE X e0 (tCB (fun xs H Q => ∃ x tp, xs = [x, .ref tp] ∧ H tp = some (.tup (ts.map fun t => V.ty (tyN t))) ∧ UnD M Fx (gIsi ts) x H Q) (tCons (tVar i) (tCons (tTup (tTys ts)) tNil)))) :
    PE X e0 (EvR M W Fx (cIsiV ts i C)) := by
  refine pe_weak he fun σ H Q ⟨B, env, ok, h⟩ => ?_
  obtain ⟨s, hs, q⟩ := RRun.opt.mp h
  obtain ⟨d, hd, hs⟩ := Option.bind_eq_some_iff.mp hs
  obtain ⟨v, e1, r⟩ := datV_pk ok hd
  refine ⟨v, e1, tTys_run ⟨by rw [List.length_map, sizeLine_eq]; omega, fun p hp => ⟨v, p, rfl, upd_same, UnD.new hp ok r hs q⟩⟩⟩

/-! ### f'..' -/
inductive FJ (M : Mdl) (W : WX) (Fx : Nat → Prop) (X : Cx) (C : Ctx) : List Expr → List TE → List Ex → Prop
  | nil : FJ M W Fx X C [] [] []
  | fmt {e : Expr} {p : Pos} {m : Ex} {es : List Expr} {ts : List TE} {ms : List Ex} (h : PE X e (EvR M W Fx (m C))) (r : FJ M W Fx X C es ts ms) : FJ M W Fx X C (.FormattedValue e (-1) none p :: es) (tFmt (EvR M W Fx (m C)) :: ts) (m :: ms)
  | con {z : Str} {k : Nat} {p : Pos} {es : List Expr} {ts : List TE} {ms : List Ex} (r : FJ M W Fx X C es ts ms) : FJ M W Fx X C (.Constant (.str z) k p :: es) (tC (.str z) :: ts) (cCon (.str z) :: ms)
theorem FJ.pj {es : List Expr} {ts : List TE} {ms : List Ex} (h : FJ M W Fx X C es ts ms) : PJ X es ts := by
  induction h with
  | nil => exact .nil
  | fmt h _ ih => exact .cons (pe_fmt h) ih
  | con _ ih => exact .cons pe_str ih
theorem fmt_ok {K : Frag} {Av : Addr → Prop} {H : Hp} {d : D} {w : List Nat} {v : V} (h : fmtD d = some w) (r : Rep K Av H d v) : (∃ y : Str, v = .str y ∧ y = S w) ∨ ∃ i : Int, v = .int i ∧ i.natAbs.log2 < 1920 ∧ S w = Str.ofString (toString i) := by
  unfold fmtD at h
  split at h
  · cases h; exact .inl ⟨_, r, (S_cs _).symm⟩
  · obtain ⟨hz, rfl⟩ := if_some h
    refine .inr ⟨_, r, ?_, (intCs_ok _).symm⟩
    unfold numOk at hz; simpa using hz
  · cases h
theorem S_app (a b : List Nat) : S a ++ S b = S (a ++ b) := SX.S_cat a b
theorem S_length (a : List Nat) : (S a).length = a.length := SX.S_len a
theorem FJ.run {es : List Expr} {ts : List TE} {ms : List Ex} (h : FJ M W Fx X C es ts ms) : ∀ {acc : List Nat} {σ : St} {H : Hp} {B : Addr → Prop} {env : Env} {Qo : List Nat → Env → Prop} {Q : Str → Hp → Prop}, EnvOk M.K B H σ env → RRun (evF C ms acc env) Qo (XQ M W B Fx σ env H) →
    (∀ l e1 H1, Qo l e1 → EnvOk M.K B H1 σ e1 → Step Fx σ env H σ e1 H1 → Q (S l) H1) → tJs ts (S acc) σ H Q := by
  induction h with
  | nil =>
    intro acc σ H B env Qo Q ok h k
    exact k acc env H h ok Step.refl
  | @fmt e p m es ts ms he r ih =>
    intro acc σ H B env Qo Q ok h k
    refine EvR.val ok h fun d e1 H1 v o1 s1 r1 q => ?_
    rw [RRun.bind, RRun.opt] at q
    obtain ⟨w, hw, q⟩ := q
    by_cases hz : (acc ++ w).length ≤ sizeLine
    case neg => rw [if_neg (by simpa using hz)] at q; exact q.elim
    rw [if_pos (decide_eq_true hz)] at q
    have nx : tJs ts (S acc ++ S w) σ H1 Q := by
      rw [S_app]
      exact ih o1 q fun l e2 H2 a b c => k l e2 H2 a b (s1.trans c)
    have hl : (S acc ++ S w).length ≤ sizeLine := by rw [S_app, S_length]; exact hz
    have hw2 : (S w).length ≤ sizeLine := by rw [S_length]; rw [List.length_append] at hz; omega
    rcases fmt_ok hw r1 with ⟨y, rfl, rfl⟩ | ⟨i, rfl, h1, h2⟩
    · exact .inl ⟨_, rfl, hw2, _, rfl, hl, nx⟩
    · refine .inr ⟨i, rfl, h1, _, rfl, ?_, ?_⟩
      · rw [← h2]; exact hl
      · rw [← h2]; exact nx
  | @con z k' p es ts ms r ih =>
    intro acc σ H B env Qo Q ok h k
    have h : RRun ((R.opt (fmtD (.str z)) env).bind fun w e => if decide ((acc ++ w).length ≤ sizeLine) then evF C ms (acc ++ w) e else .no) Qo (XQ M W B Fx σ env H) := h
    rw [RRun.bind, RRun.opt] at h
    obtain ⟨w, hw, q⟩ := h
    cases hw
    by_cases hz : (acc ++ cs z).length ≤ sizeLine
    case neg => rw [if_neg (by simpa using hz)] at q; exact q.elim
    rw [if_pos (decide_eq_true hz)] at q
    refine ⟨z, rfl, ?_, ?_⟩
    · have : S acc ++ z = S (acc ++ cs z) := by rw [← S_app, S_cs]
      rw [this, S_length]; exact hz
    · have : S acc ++ z = S (acc ++ cs z) := by rw [← S_app, S_cs]
      rw [this]
      exact ih ok q k
theorem sd_fst {e1 e2 : Expr} {es : List Expr} {ts : List TE} {ms : List Ex} (h : FJ M W Fx X C (e1 :: e2 :: es) ts ms) : PE X (.JoinedStr (e1 :: e2 :: es) pos) (EvR M W Fx (cFst ms C)) := by
  refine pe_weak (pe_joined h.pj) fun σ H Q ⟨B, env, ok, q⟩ => ?_
  unfold cFst at q
  rw [RRun.bind] at q
  exact h.run (acc := []) ok q fun l e1 H1 q o1 s1 => q H1 _ (Post.val o1 s1 rfl)

/-! ### owned lists are changed -/
theorem s_setIx {o ix e : Expr} {i : Nat} {mi me : Ex} {p : Pos} (ho : PE X o (tVar i)) (hi : PE X ix (EvR M W Fx (mi C))) (he : PE X e (EvR M W Fx (me C))) (hg : PG X (.Subscript o ix p) (gSub (tVar i) (EvR M W Fx (mi C)) rSetL))
    (hs : swapsWithSole [.Subscript o ix p] e pos.line X.env = pure false) (hw : swappedStores [.Subscript o ix p] e X.env = pure none) (h1 : (assignEach [.Subscript o ix p] X.env).map (·.2) = [PySem.assign (.Subscript o ix p) X.env]) :
    PS X (.Assign [.Subscript o ix p] e pos) (SvR M W Fx (sSetIx i mi me C)) := by
  refine ps_weak (ps_asg he hg hs hw h1) fun Z σ H ⟨B, env, ok, h⟩ => ?_
  refine EvR.flowV ok h fun d e1 H1 v o1 s1 r1 q => ?_
  have q := flow_run.mp q
  rw [RRun.opt] at q
  obtain ⟨s0, hs0, q⟩ := q
  obtain ⟨w, hw', _⟩ := o1.rep i s0 hs0
  refine ⟨w, hw', EvR.flowV o1 q fun y e2 H2 u o2 s2 r2 q => ?_⟩
  obtain ⟨f, hf, q⟩ := orNo_run.mp q
  obtain ⟨s, hs, rfl⟩ := Option.map_eq_some_iff.mp hf
  unfold setD at hs
  split at hs
  · rename_i ds k hg'
    obtain ⟨j, hj, rfl⟩ := Option.map_eq_some_iff.mp hs
    obtain ⟨w', e3, a, vs, rfl, e4, e5⟩ := o2.rep i _ hg'
    rw [hw'] at e3; cases e3
    cases r2
    obtain ⟨o3, s3⟩ := change (Fx := Fx) o2 hg' hw' e4 (e5.set j (r1.step o1 s2))
    exact ⟨a, vs, _, j, rfl, rfl, e4, by rw [← e5.length]; exact hj, q σ _ o3 s3⟩
  · cases hs
theorem s_app {o e : Expr} {e0 : Expr} {i : Nat} {m : Ex} (hK : X.K = M.K) (he0 : PE X e0 (tBM X.K "list" rAppend (tVar i) (tCons (EvR M W Fx (m C)) tNil))) (hs : swapsWith e0 none pos.line X.env = pure false) : PS X (.Expr e0 pos) (SvR M W Fx (sApp i m C)) := by
  refine ps_weak (ps_expr he0 hs) fun Z σ H ⟨B, env, ok, h⟩ => ?_
  have h := flow_run.mp (show FRun M W B Fx σ env H Z ((R.opt (ownS env i) env).flow _) from h)
  rw [RRun.opt] at h
  obtain ⟨_, h0, q⟩ := h
  unfold ownS at h0
  split at h0
  · rename_i ds hg
    obtain ⟨w, e1, a, vs, rfl, e2, e3⟩ := ok.rep i _ hg
    refine ⟨_, e1, .inl ⟨rfl, vs, SqL_of e2⟩, EvR.flowV ok q fun d e4 H1 v o1 s1 r1 q => ?_⟩
    obtain ⟨f, hf, q⟩ := orNo_run.mp q
    obtain ⟨s, hs, rfl⟩ := Option.map_eq_some_iff.mp hf
    unfold appD at hs
    split at hs
    · rename_i ds' hg'
      obtain ⟨hz, rfl⟩ := if_some hs
      obtain ⟨w', e5, a', vs', e6, e7, e8⟩ := o1.rep i _ hg'
      rw [e1] at e5; cases e5
      cases e6
      obtain ⟨o3, s3⟩ := change (Fx := Fx) o1 hg' e1 e7 (e8.append (.cons r1 .nil))
      exact ⟨a, vs', v, rfl, rfl, e7, by rw [← e8.length]; exact of_decide_eq_true hz, q σ _ o3 s3⟩
    · cases hs
  · cases h0
end
end Ev
end
section
set_option linter.all false
set_option maxRecDepth 100000
set_option maxHeartbeats 2000000
/-! soundness 7s: sorted(set(l)); l.pop(k); l.extend(m) -/
namespace Ev
open PySem L2 SetZ
theorem insS_mem (x : Int) : ∀ (l : List Int) (k : Int), k ∈ insS x l ↔ k = x ∨ k ∈ l
  | [], k => by simp [insS]
  | y :: ys, k => by
    unfold insS
    split
    · simp
    · split
      · rename_i h
        subst h
        simp
      · rw [List.mem_cons, insS_mem x ys k, List.mem_cons]
        constructor
        · rintro (h | h | h)
          · exact .inr (.inl h)
          · exact .inl h
          · exact .inr (.inr h)
        · rintro (h | h | h)
          · exact .inr (.inl h)
          · exact .inl h
          · exact .inr (.inr h)
theorem sortS_mem : ∀ (l : List Int) (k : Int), k ∈ sortS l ↔ k ∈ l
  | [], k => Iff.rfl
  | x :: xs, k => by
    show k ∈ insS x (sortS xs) ↔ _
    rw [insS_mem, sortS_mem xs k, List.mem_cons]
theorem insS_lt (x : Int) : ∀ l : List Int, l.Pairwise (· < ·) → (insS x l).Pairwise (· < ·)
  | [], _ => by simp [insS]
  | y :: ys, h => by
    unfold insS
    obtain ⟨h1, h2⟩ := List.pairwise_cons.mp h
    split
    · rename_i c
      refine List.pairwise_cons.mpr ⟨fun z hz => ?_, h⟩
      rcases List.mem_cons.mp hz with rfl | hz
      · exact c
      · have := h1 z hz; omega
    · split
      · exact h
      · rename_i c1 c2
        refine List.pairwise_cons.mpr ⟨fun z hz => ?_, insS_lt x ys h2⟩
        rcases (insS_mem x ys z).mp hz with rfl | hz
        · omega
        · exact h1 z hz
theorem sortS_lt : ∀ l : List Int, (sortS l).Pairwise (· < ·)
  | [] => .nil
  | x :: xs => insS_lt x _ (sortS_lt xs)
theorem lt_nodup {l : List Int} (h : l.Pairwise (· < ·)) : l.Nodup := h.imp fun q e => by omega
theorem lt_same {a b : List Int} (ha : a.Pairwise (· < ·)) (hb : b.Pairwise (· < ·)) (h : ∀ k, k ∈ a ↔ k ∈ b) : a = b :=
  sorted_eq ((List.perm_ext_iff_of_nodup (lt_nodup ha) (lt_nodup hb)).mpr h) (ha.imp fun q => by omega) (hb.imp fun q => by omega)
theorem ix_seq {n : Nat} {i : Int} {j : Nat} (h : ixOf n i = some j) : seqIndex? i n = some j := by
  unfold ixOf at h
  unfold seqIndex?
  by_cases h0 : 0 ≤ i
  · have e : (if i < 0 then i + (n : Int) else i) = i := if_neg (by omega)
    rw [if_pos h0] at h
    by_cases h1 : i < n
    · rw [if_pos h1] at h
      cases h
      dsimp only
      rw [e, if_pos (by rw [decide_eq_true h0, decide_eq_true h1]; rfl)]
    · rw [if_neg h1] at h; cases h
  · have e : (if i < 0 then i + (n : Int) else i) = i + n := if_pos (by omega)
    rw [if_neg h0] at h
    by_cases h1 : -(n : Int) ≤ i
    · rw [if_pos h1] at h
      cases h
      dsimp only
      rw [e, if_pos (by rw [decide_eq_true (show 0 ≤ i + (n : Int) by omega), decide_eq_true (show i + (n : Int) < n by omega)]; rfl)]
    · rw [if_neg h1] at h; cases h
theorem repL_erase {K : Frag} {Av : Addr → Prop} {H : Hp} : ∀ {ds : List D} {vs : List V} (j : Nat), RepL K Av H ds vs → RepL K Av H (ds.eraseIdx j) (vs.eraseIdx j)
  | [], _, j, h => by rw [show _ = [] from h]; exact .nil
  | d :: ds, _, 0, h => by
    obtain ⟨v, r, rfl, h1, h2⟩ := h
    exact h2
  | d :: ds, _, j + 1, h => by
    obtain ⟨v, r, rfl, h1, h2⟩ := h
    exact ⟨v, _, rfl, h1, repL_erase j h2⟩
theorem if_someB {α : Type} {b : Bool} {x : Option α} {y : α} (h : (if b = true then x else none) = some y) : b = true ∧ x = some y := by
  cases b with
  | false => cases h
  | true => exact ⟨rfl, h⟩
section
variable {M : Mdl} {W : WX} {Fx : Nat → Prop} {X : Cx} {C : Ctx} {pos : Pos}
theorem sd_ss {a : Expr} {ma : Ex} {p p2 cpos : Pos} (hK : X.K = M.K) (hc : X.calm = true) (hg : Gl X "sorted") (hm : X.mg "sorted" = none) (hg2 : Gl X "set") (hm2 : X.mg "set" = none) (ha : PE X a (EvR M W Fx (ma C)))
    (hs : starEach [a] X.env = (false, eval a X.env) :: starEach [] X.env) :
    PE X (.Call (.Name "sorted" p) [.Call (.Name "set" p2) [a] [] cpos] [] pos) (EvR M W Fx (cSs ma C)) := by
  refine pe_weak (pe_callB (cr_sortedSet hc) hg hm rfl (pa_cons (pe_callTy (cr_setI hc) hg2 hm2 rfl (pa_cons ha pa_nil hs) (by decide) (by decide) hs) pa_nil rfl) (by decide) (by decide) rfl) fun σ H Q h => ?_
  obtain ⟨B, env, ok, h⟩ := c1_read σ H Q h
  refine ⟨B, env, ok, h.imp (fun s e f H' v p => ?_) fun _ _ _ q => q⟩
  obtain ⟨B', σ', env', dx, sl, ok', px, hg, q⟩ := f H' v p
  unfold ssD at hg
  split at hg
  · rename_i xs
    split at hg
    · rename_i l hl
      obtain ⟨hz, rfl⟩ := if_some hg
      rw [Bool.and_eq_true] at hz
      have h1 := of_decide_eq_true hz.1
      have h2 := of_decide_eq_true hz.2
      obtain ⟨a, vs, rfl, e, r⟩ := px
      have ev := intsD_v hl r
      subst ev
      refine ⟨a, l, rfl, SqL_of e, h1, fun p S L hp hS hn hL => ?_⟩
      have pm : L.Perm (sortS l) := (List.perm_ext_iff_of_nodup hn (lt_nodup (sortS_lt l))).mpr fun k => (hL k).trans (sortS_mem l k).symm
      refine ⟨p, S, L.length, rfl, upd_same, by rw [pm.length_eq]; exact h2, fun ns p2 hlt hmem _ hp2 => ?_⟩
      obtain rfl : ns = sortS l := lt_same hlt (sortS_lt l) fun k => (hmem k).trans ((hS k).trans (sortS_mem l k).symm)
      exact q _ _ (Post.lst (ok'.new hp) (Step.new hp) hp2 (repI _))
    · cases hg
  · cases hg
theorem sd_pop {o e0 ix : Expr} {i : Nat} {m : Ex} (hK : X.K = M.K) (he0 : PE X e0 (tBM X.K "list" rPopAt (tVar i) (tCons (EvR M W Fx (m C)) tNil))) : PE X e0 (EvR M W Fx (cPop i m C)) := by
  refine pe_weak he0 fun σ H Q ⟨B, env, ok, h⟩ => ?_
  have h : RRun ((R.opt (ownS env i) env).bind _) _ _ := h
  rw [RRun.bind, RRun.opt] at h
  obtain ⟨_, h0, q⟩ := h
  unfold ownS at h0
  split at h0
  · rename_i ds hg
    obtain ⟨w, e1, a, vs, rfl, e2, e3⟩ := ok.rep i _ hg
    refine ⟨_, e1, .inl ⟨rfl, vs, SqL_of e2⟩, EvR.val ok q fun d e4 H1 v o1 s1 r1 q => ?_⟩
    unfold popK at q
    split at q
    · rename_i p hp
      unfold popD at hp
      split at hp
      · rename_i ds' k hg'
        obtain ⟨hr, hp⟩ := if_someB hp
        obtain ⟨j, hj, hp⟩ := Option.bind_eq_some_iff.mp hp
        obtain ⟨d', hd', rfl⟩ := Option.map_eq_some_iff.mp hp
        obtain ⟨w', e5, a', vs', e6, e7, e8⟩ := o1.rep i _ hg'
        rw [e1] at e5; cases e5
        cases e6
        cases r1
        obtain ⟨y, hy, ry⟩ := e8.get hd'
        obtain ⟨o3, s3⟩ := change (Fx := Fx) o1 hg' e1 e7 (repL_erase j e8)
        obtain ⟨r1, r2⟩ := rngOk_c hr
        refine ⟨a, vs', k, j, y, rfl, rfl, e7, by omega, by omega, ?_, hy, q _ _ (Post.val o3 (s1.trans s3) (ry.step o1 s3))⟩
        rw [← e8.length]
        exact ix_seq hj
      · cases hp
    · exact q.elim
  · cases h0
theorem s_ext {o e : Expr} {e0 : Expr} {i : Nat} {m : Ex} (hK : X.K = M.K) (he0 : PE X e0 (tBM X.K "list" rExtend (tVar i) (tCons (EvR M W Fx (m C)) tNil))) (hs : swapsWith e0 none pos.line X.env = pure false) : PS X (.Expr e0 pos) (SvR M W Fx (sExt i m C)) := by
  refine ps_weak (ps_expr he0 hs) fun Z σ H ⟨B, env, ok, h⟩ => ?_
  have h := flow_run.mp (show FRun M W B Fx σ env H Z ((R.opt (ownS env i) env).flow _) from h)
  rw [RRun.opt] at h
  obtain ⟨_, h0, q⟩ := h
  unfold ownS at h0
  split at h0
  · rename_i ds hg
    obtain ⟨w, e1, a, vs, rfl, e2, e3⟩ := ok.rep i _ hg
    refine ⟨_, e1, .inl ⟨rfl, vs, SqL_of e2⟩, EvR.flowV ok q fun d e4 H1 v o1 s1 r1 q => ?_⟩
    obtain ⟨f, hf, q⟩ := orNo_run.mp q
    obtain ⟨s, hs, rfl⟩ := Option.map_eq_some_iff.mp hf
    unfold extD at hs
    split at hs
    · rename_i ds' es hg'
      obtain ⟨hz, rfl⟩ := if_some hs
      obtain ⟨w', e5, a', vs', e6, e7, e8⟩ := o1.rep i _ hg'
      rw [e1] at e5; cases e5
      cases e6
      obtain ⟨b, ws, rfl, nb, e9, r2⟩ := r1
      obtain ⟨o3, s3⟩ := change (Fx := Fx) o1 hg' e1 e7 (e8.append r2)
      exact ⟨a, b, vs', ws, rfl, rfl, e7, e9, by rw [← e8.length, ← r2.length]; exact of_decide_eq_true hz, q σ _ o3 s3⟩
    · cases hs
  · cases h0
end
end Ev
end
section
set_option linter.all false
set_option maxRecDepth 100000
set_option maxHeartbeats 2000000
/-! soundness 12: several names at once, calls by names, a def by its body -/
namespace Ev
open PySem L2

section
variable {M : Mdl} {W : WX} {Fx : Nat → Prop} {X : Cx} {C : Ctx} {pos : Pos}
theorem evA_vals : ∀ {ms : List Ex} {e : Env}, evA C (ms.map .val) e = evSs C ms e
  | [], _ => rfl
  | m :: ms, e => by
    show ((m C e).bind fun s e => (evA C (ms.map .val) e).bind fun ss e => .ok (s :: ss) e) = _
    have : (fun s e => (evA C (ms.map .val) e).bind fun ss e => R.ok (s :: ss) e) = fun s e => (evSs C ms e).bind fun ss e => R.ok (s :: ss) e := by
      funext s e; rw [evA_vals]
    rw [this]; rfl
def setsN : List Nat → List V → St → St
  | i :: is, v :: vs, σ => setsN is vs (σ.set i (some v))
  | _, _, σ => σ
/-- the slots of names don't matter where every argument is a value -/
theorem ARep.slots {K : Frag} {Av : Addr → Prop} {H : Hp} {σ σ' : St} : ∀ {ms : List Ex} {ss : List Slot} {vs : List V}, ARep K Av H σ (ms.map .val) ss vs → ARep K Av H σ' (ms.map .val) ss vs
  | [], _, _, z => z
  | m :: ms, _, _, z => by
    obtain ⟨a1, a2, a3, a4, rfl, rfl, a5, a6, a7⟩ := z
    exact ⟨a1, a2, a3, a4, rfl, rfl, a5, a6, ARep.slots a7⟩
theorem par_set {K : Frag} : ∀ {is : List Nat} {bs : List Bool} {ms : List Ex} {ss : List Slot} {vs : List V} {σ : St} {e1 e2 : Env} {B : Addr → Prop} {σ0 : St} {env : Env} {H H1 : Hp}, (∀ i ∈ is, ¬ Fx i) →
    EnvOk M.K (fun a => B a ∨ TmL (ms.map .val) ss vs a) H1 σ e1 → Step Fx σ0 env H σ e1 H1 → ARep M.K (Avd (fun a => B a ∨ TmL (ms.map .val) ss vs a) σ e1) H1 σ (ms.map .val) ss vs →
    (∀ a, TmL (ms.map .val) ss vs a → ¬ B a ∧ (Own σ0 env a ∨ H a = none)) → TmD (ms.map .val) ss vs → setPar is bs ss e1 = some e2 →
    vs.length = is.length ∧ EnvOk M.K B H1 (setsN is vs σ) e2 ∧ Step Fx σ0 env H (setsN is vs σ) e2 H1
  | [], bs, ms, ss, vs, σ, e1, e2, B, σ0, env, H, H1, _, ok, st, r, new, dis, h => by
    cases bs with
    | cons _ _ => simp [setPar] at h
    | nil =>
      cases ss with
      | cons _ _ => simp [setPar] at h
      | nil =>
        cases ms with
        | nil =>
          obtain ⟨_, rfl⟩ := r
          cases h
          exact ⟨rfl, ok.mono fun _ b => .inl b, st⟩
        | cons m ms => obtain ⟨s, t, v, r, h1, _⟩ := r; cases h1
  | i :: is, bs, ms, ss, vs, σ, e1, e2, B, σ0, env, H, H1, hf, ok, st, r, new, dis, h => by
    cases bs with
    | nil => cases ss <;> simp [setPar] at h
    | cons b bs =>
      cases ss with
      | nil => simp [setPar] at h
      | cons s ss =>
        cases ms with
        | nil => obtain ⟨h1, _⟩ := r; cases h1
        | cons m ms =>
          obtain ⟨s', t, v, r', h1, rfl, r1, nr, r2⟩ := r
          cases h1
          rw [setPar] at h
          obtain ⟨sk, hk, h⟩ := Option.bind_eq_some_iff.mp h
          let B1 : Addr → Prop := fun a => B a ∨ TmL (ms.map .val) ss r' a
          have sub : ∀ a, Bt B1 s v a → (B a ∨ TmL (Arg.val m :: ms.map .val) (s :: ss) (v :: r') a) := fun a q => by
            rcases q with (q | q) | q
            · exact .inl q
            · exact .inr (.inr q)
            · exact .inr (.inl q)
          have p : PostR M.K B1 Fx σ0 env H σ e1 H1 s v := by
            refine ⟨ok.mono sub, st, r1.less fun a q => q.elim (fun q => .inl (sub a q)) .inr, fun a t => ?_, nr⟩
            obtain ⟨n1, n2⟩ := new a (.inl t)
            exact ⟨fun q => q.elim n1 (dis.1 a t), n2⟩
          obtain ⟨o2, s2⟩ := asgnR (hf i (List.mem_cons_self ..)) p hk
          -- the other values stand
          have av : ∀ a, Avd B1 (σ.set i (some v)) (e1.set i (some sk)) a → Avd (fun a => B a ∨ TmL (Arg.val m :: ms.map .val) (s :: ss) (v :: r') a) σ e1 a := fun a q => by
            rcases q with q | q
            · exact .inl (sub a (.inl q))
            · obtain ⟨j, ds, g1, g2⟩ := q
              rw [getS_set] at g1
              by_cases hj : i = j ∧ i < e1.length
              · rw [if_pos hj] at g1
                cases g1
                obtain ⟨rfl, hl⟩ := hj
                have hl' : i < σ.length := by have := ok.len; omega
                rw [List.getElem?_set_self hl'] at g2
                cases g2
                unfold keep at hk
                split at hk
                · cases hk; exact .inl (.inr (.inl ⟨⟨_, rfl⟩, rfl⟩))
                · obtain ⟨d, _, z⟩ := Option.map_eq_some_iff.mp hk
                  cases z
              · rw [if_neg hj] at g1
                by_cases hj2 : i = j
                · subst hj2
                  exact absurd ⟨rfl, getS_lt g1⟩ hj
                · rw [List.getElem?_set_ne hj2] at g2
                  exact .inr ⟨j, ds, g1, g2⟩
          have r3 : ARep M.K (Avd B1 (σ.set i (some v)) (e1.set i (some sk))) H1 (σ.set i (some v)) (ms.map .val) ss r' := ARep.slots (r2.less av)
          obtain ⟨l3, o3, s3⟩ := par_set (K := K) (is := is) (fun j hj => hf j (List.mem_cons_of_mem _ hj)) o2 s2 r3 (fun a t => new a (.inr t)) dis.2 h
          exact ⟨by simp [l3], o3, s3⟩
/-- the reading of several values for several names -/
theorem par_read {is : List Nat} {ms : List Ex} {own : List Bool} (hf : ∀ i ∈ is, ¬ Fx i) {ta : TA} {tp : TS} (ht : ∀ σ H Q, AsR M W Fx (ms.map .val) (evA C (ms.map .val)) σ H Q → ta σ H Q)
    (hp : ∀ Z σ H, (ta σ H fun vs H1 => vs.length = is.length ∧ Z.nx (setsN is vs σ) H1) → tp Z σ H) : ∀ Z σ H, SvR M W Fx (sPar is ms own C) Z σ H → tp Z σ H := fun Z σ H ⟨B, env, ok, h⟩ => by
  refine hp Z σ H (ht σ H _ ?_)
  have h := flow_run.mp h
  rw [← evA_vals] at h
  refine ⟨B, env, ok, h.imp (fun ss e1 q H1 vs p => ?_) fun _ _ _ q => xq_of q⟩
  obtain ⟨f, hf', q⟩ := orNo_run.mp q
  obtain ⟨e2, he, rfl⟩ := Option.map_eq_some_iff.mp hf'
  obtain ⟨l, o2, s2⟩ := par_set (K := M.K) hf p.ok p.st p.rep p.new p.dis he
  exact ⟨l, q _ H1 o2 s2⟩
theorem s_par2 {i j : Nat} {x y : Str} {a b : Expr} {ms : List Ex} {own : List Bool} {px py pt : Pos} {kt k2 pt2} (hc : X.calm = true) (hN : X.N.Nodup) (hi : X.N[i]? = some x) (hj : X.N[j]? = some y) (hij : i ≠ j) (hx : X.env.scope.names.lookup x = some .local) (hy : X.env.scope.names.lookup y = some .local)
    (ha : PA X [a, b] (AsR M W Fx (ms.map .val) (evA C (ms.map .val)))) (hw : swappedStores [.Tuple [.Name x px, .Name y py] kt pt] (.Tuple [a, b] k2 pt2) X.env = pure (some [x, y])) (hf : ∀ k ∈ [i, j], ¬ Fx k) :
    PS X (.Assign [.Tuple [.Name x px, .Name y py] kt pt] (.Tuple [a, b] k2 pt2) pos) (SvR M W Fx (sPar [i, j] ms own C)) :=
  ps_weak (ps_par hc hN hi hj hij hx hy ha hw rfl) (par_read hf (fun _ _ _ h => h) fun Z σ H h => by
    obtain ⟨B, env, ok, h⟩ := h
    refine ⟨B, env, ok, h.imp (fun ss e1 q H1 vs p => ?_) fun _ _ _ q => q⟩
    obtain ⟨l, q⟩ := q H1 vs p
    match vs, l with
    | [v, w], _ => exact ⟨v, w, rfl, q⟩)
theorem s_par3 {i j l : Nat} {x y z : Str} {a b c : Expr} {ms : List Ex} {own : List Bool} {px py pz pt : Pos} {kt k2 pt2} (hc : X.calm = true) (hN : X.N.Nodup) (hi : X.N[i]? = some x) (hj : X.N[j]? = some y) (hl : X.N[l]? = some z) (hij : i ≠ j) (hil : i ≠ l) (hjl : j ≠ l)
    (hx : X.env.scope.names.lookup x = some .local) (hy : X.env.scope.names.lookup y = some .local) (hz : X.env.scope.names.lookup z = some .local)
    (ha : PA X [a, b, c] (AsR M W Fx (ms.map .val) (evA C (ms.map .val)))) (hw : swappedStores [.Tuple [.Name x px, .Name y py, .Name z pz] kt pt] (.Tuple [a, b, c] k2 pt2) X.env = pure (some [x, y, z])) (hf : ∀ k ∈ [i, j, l], ¬ Fx k) :
    PS X (.Assign [.Tuple [.Name x px, .Name y py, .Name z pz] kt pt] (.Tuple [a, b, c] k2 pt2) pos) (SvR M W Fx (sPar [i, j, l] ms own C)) :=
  ps_weak (ps_par3 hc hN hi hj hl hij hil hjl hx hy hz ha hw rfl) (par_read hf (fun _ _ _ h => h) fun Z σ H h => by
    obtain ⟨B, env, ok, h⟩ := h
    refine ⟨B, env, ok, h.imp (fun ss e1 q H1 vs p => ?_) fun _ _ _ q => q⟩
    obtain ⟨l, q⟩ := q H1 vs p
    match vs, l with
    | [u, v, w], _ => exact ⟨u, v, w, rfl, q⟩)

/-- names, one behind another -/
def gNs : List Nat → TGs
  | [] => gNil
  | i :: is => gCons (gName i) (gNs is)
theorem gNs_run : ∀ {is : List Nat} {vs : List V} {σ : St} {H : Hp} {Q : St → Hp → Prop}, vs.length = is.length → Q (setsN is vs σ) H → gNs is vs σ H Q
  | [], [], _, _, _, _, h => ⟨rfl, h⟩
  | i :: is, v :: vs, σ, H, Q, l, h => ⟨v, vs, rfl, gNs_run (is := is) (by simpa using l) h⟩
  | [], _ :: _, _, _, _, l, _ => by simp at l
  | _ :: _, [], _, _, _, l, _ => by simp at l
theorem ARep.new {K : Frag} {Av : Addr → Prop} {H : Hp} {p : Addr} {o : HO} (hp : H p = none) {σ : St} : ∀ {ms : List Ex} {ss : List Slot} {vs : List V}, ARep K Av H σ (ms.map .val) ss vs → ARep K Av (upd H p o) σ (ms.map .val) ss vs
  | [], _, _, h => h
  | m :: ms, _, _, h => by
    obtain ⟨s, t, v, r, rfl, rfl, h1, h2, h3⟩ := h
    exact ⟨s, t, v, r, rfl, rfl, SRep.mono (fun _ _ e n => ⟨lst_new hp e, n⟩) (nol_new hp) (fun _ _ e _ => lst_new hp e) (fun _ _ e => sqR_new hp e) h1, h2, ARep.new hp h3⟩
/-- the tuple is laid, then taken apart -/
theorem s_parN {is : List Nat} {tgs es : List Expr} {ms : List Ex} {own : List Bool} {pt : Pos} {kt k2 pt2} (hc : X.calm = true) (hg : PGs X tgs (gNs is)) (ha : PA X es (AsR M W Fx (ms.map .val) (evA C (ms.map .val)))) (hf : ∀ k ∈ is, ¬ Fx k)
    (hn : (assignEach tgs X.env).length = is.length) (hst : (assignEach tgs X.env).findIdx? (·.1) = none) (hz : es.length ≤ 1000) (hz2 : ms.length = es.length)
    (hs : swapsWithSole [.Tuple tgs kt pt] (.Tuple es k2 pt2) pos.line X.env = pure false) (hw : swappedStores [.Tuple tgs kt pt] (.Tuple es k2 pt2) X.env = pure none)
    (h1 : (assignEach [.Tuple tgs kt pt] X.env).map (·.2) = [PySem.assign (.Tuple tgs kt pt) X.env]) :
    PS X (.Assign [.Tuple tgs kt pt] (.Tuple es k2 pt2) pos) (SvR M W Fx (sPar is ms own C)) := by
  refine ps_weak (ps_asg (pe_tup ha) (pg_tup hc hg hn hst) hs hw h1) fun Z σ H ⟨B, env, ok, h⟩ => ?_
  have h := flow_run.mp h
  rw [← evA_vals] at h
  refine ⟨B, env, ok, h.imp (fun ss e1 q H1 vs p => ?_) fun _ _ _ q => xq_of q⟩
  obtain ⟨f, hf', q⟩ := orNo_run.mp q
  obtain ⟨e2, he, rfl⟩ := Option.map_eq_some_iff.mp hf'
  have lv : ∀ {ms : List Ex} {ss : List Slot} {vs : List V} {Av : Addr → Prop} {H : Hp}, ARep M.K Av H σ (ms.map .val) ss vs → vs.length = ms.length := fun {ms} => by
    induction ms with
    | nil => intro ss vs Av H h; rw [h.2]; rfl
    | cons m ms ih =>
      intro ss vs Av H h
      obtain ⟨s, t, v, r, rfl, rfl, _, _, h3⟩ := h
      simp [ih h3]
  refine ⟨by rw [lv p.rep, hz2, sizeLine_eq]; omega, fun pp hp => ?_⟩
  obtain ⟨l, o2, s2⟩ := par_set (K := M.K) hf (p.ok.new hp) (p.st.trans (Step.new hp)) (ARep.new hp p.rep) p.new p.dis he
  exact ⟨pp, vs, rfl, SqT.of upd_same, l, gNs_run l (q _ _ o2 s2)⟩

/-! ### calls by names; calls of nothing -/
section
variable {k : Nat} {f : Addr} {fd : FuncData} {ps : List Str} {x : Str} {p : Pos} {e : Expr} {es : List Expr} {fi : Nat}
/-- plain values handed to a def -/
theorem vals_call {σ : St} {H : Hp} {Q : VK} {B : Addr → Prop} {env e1 : Env} {H1 : Hp} {us : List Slot} {ds : List D} {vs : List V} (o1 : EnvOk M.K B H1 σ e1) (s1 : Step Fx σ env H σ e1 H1) (hu : us = ds.map .val) (r : RepL M.K (Avd B σ e1) H1 ds vs) (hl : ds.length = ps.length)
    (h : RRun (back [] e1 (C.call fi us)) (fun s env' => ∀ H' v, Post M.K B Fx σ env H env' H' s v → Q v H') (XQ M W B Fx σ e1 H1)) : spOf M C ps.length fi vs H1 Q (WE W σ) := by
  subst hu
  have hlen := r.length
  have no : ∀ {us : List D} {vs : List V} {a : Addr}, ¬ Own (vs.map some) ((us.map Slot.val).map some) a := fun {us vs a} ⟨i, es, h1, h2⟩ => by
    rw [getS_map, List.getElem?_map] at h1
    obtain ⟨d, _, z⟩ := Option.map_eq_some_iff.mp h1
    cases z
  refine ⟨by omega, Avd B σ e1, ds.map .val, ⟨by simp [hlen], fun i s e => ?_, fun i j es fs a h1 _ _ _ => ?_, fun a b => ?_, fun a o => (no o).elim⟩, ?_⟩
  · rw [getS_map, List.getElem?_map] at e
    obtain ⟨d, hd, rfl⟩ := Option.map_eq_some_iff.mp e
    obtain ⟨v, hv, rd⟩ := r.get hd
    exact ⟨v, get_map.mpr hv, Rep.less rd fun a q => q.elim id fun o => (no o).elim⟩
  · rw [getS_map, List.getElem?_map] at h1
    obtain ⟨d, _, z⟩ := Option.map_eq_some_iff.mp h1
    cases z
  · rcases b with b | b
    · exact o1.bd a b
    · obtain ⟨_, e⟩ := o1.ownAt b
      rw [e]; intro z; cases z
  · -- what the callee hands back
    have out : ∀ {T : Addr → Prop} {ps' : Env} {H' : Hp}, EnvOk M.K (fun a => Avd B σ e1 a ∨ T a) H' (vs.map some) ps' → Step Top (vs.map some) ((ds.map Slot.val).map some) H1 (vs.map some) ps' H' → (∀ a, T a → H1 a = none) →
        EnvOk M.K (fun a => B a ∨ T a) H' σ e1 ∧ Step Fx σ e1 H1 σ e1 H' ∧ (∀ a, Avd (fun a => B a ∨ T a) σ e1 a → Avd (fun a => Avd B σ e1 a ∨ T a) (vs.map some) ps' a) := fun {T ps' H'} o s hT => by
      have kp : ∀ a u, H1 a = some u → H' a = some u := fun a u e => s.keep a u e no
      have o2 := o1.ext kp
      refine ⟨⟨o2.len, fun i t e => ?_, o2.uniq, fun a b => b.elim (o2.bd a) fun t => o.bd a (.inr t), fun a q b => b.elim (o2.bo a q) fun t => ?_⟩, Step.ext kp, fun a q => ?_⟩
      · obtain ⟨v, e1', r'⟩ := o1.rep i t e
        refine ⟨v, e1', SRep.mono (fun a ws e n => ⟨kp _ _ e, fun q => ?_⟩) (fun _ _ _ e => kp _ _ e) (fun _ _ e _ => kp _ _ e) (fun a ws e => ?_) r'⟩
        · rcases q with (q | q) | q
          · exact n (.inl q)
          · rw [hT a q] at e; cases e
          · exact n (.inr q)
        · rcases e with ⟨u, e⟩ | e
          · exact .inl ⟨u, kp _ _ e⟩
          · exact .inr e
      · obtain ⟨_, z⟩ := o1.ownAt q
        rw [hT a t] at z; cases z
      · rcases q with (q | q) | q
        · exact .inl (.inl (.inl q))
        · exact .inl (.inr q)
        · exact .inl (.inl (.inr q))
    cases hc : C.call fi (ds.map .val) with
    | no => rw [hc] at h; exact h
    | ret s qs =>
      rw [hc] at h
      intro H' v p2
      have hT : ∀ a, Tm s v a → H1 a = none := fun a t => (p2.new a t).2.resolve_left no
      obtain ⟨a1, a2, a3⟩ := out (T := Tm s v) p2.ok p2.st hT
      exact h H' v ⟨a1, s1.trans a2, p2.rep.less a3, fun a t => ⟨fun b => (p2.new a t).1 (.inl b), s1.back (hT a t)⟩, p2.nrd⟩
    | exc c es qs =>
      rw [hc] at h
      intro H' dx p2
      obtain ⟨a1, a2, a3⟩ := out (T := fun _ => False) (p2.ok.mono fun a b => b.elim id False.elim) p2.st fun a t => t.elim
      exact h H' dx ⟨a1.mono fun a b => .inl b, a2, M.xl _ _ _ _ _ _ (fun a t => (a3 a (t.elim (fun b => .inl (.inl b)) .inr)).elim (fun b => b.elim .inl False.elim) .inr) p2.x⟩
/-- f() -/
theorem sd_call0 (F : FnOk X.prog X.w X.K X.mg X.base (CX X.prog X.w) k f fd ps (spOf M C ps.length fi)) (hr : Room k X.A) (hg : Gl X x) (hm : X.mg x = some (.ref f)) (hk : PySem.W.keepIn X.K (.ref f) = true) (hb : Binds X.K fd ps []) (tk : Takes X W)
    (hl : ps = []) (hdb : (x == ("__debug__" : Str)) = false) : PE X (.Call (.Name x p) [] [] pos) (EvR M W Fx (cCall fi [] C)) := by
  refine ⟨fun pins s σ H Q I q => ?_⟩
  obtain ⟨B, env, ok, h⟩ := q
  have h : RRun (back [] env (C.call fi [])) _ _ := h
  refine wpAny_Call_Name_kw (ld_glob I hg hm ?_ hdb)
  refine PySem.W.callWith_K0 I.kIn hk (run_fnS (us := []) F hr hb (passAt tk σ) I .nil ?_)
  exact vals_call (ds := []) (vs := []) ok Step.refl rfl .nil (by rw [hl]; rfl) h
end
end
end Ev
end
section
set_option linter.all false
set_option maxRecDepth 100000
set_option maxHeartbeats 2000000
/-! soundness 13: calls by names of parameters; a def by its body -/
namespace Ev
open PySem L2

def pick {α : Type} (p : List Nat) (xs : List α) : List α := p.filterMap fun i => xs[i]?
theorem pick_vals {vs : List V} {us : List Value} (r : Vals vs us) : ∀ p : List Nat, Vals (pick p vs) (pick p us)
  | [] => .nil
  | i :: p => by
    unfold pick
    rw [List.filterMap_cons, List.filterMap_cons]
    cases e : vs[i]? with
    | none => rw [r.none_of e]; exact pick_vals r p
    | some v =>
      obtain ⟨u, h1, h2⟩ := r.get e
      rw [h1]
      exact .cons h2 (pick_vals r p)
theorem pick_rep {K : Frag} {Av : Addr → Prop} {H : Hp} {ds : List D} {vs : List V} (r : RepL K Av H ds vs) : ∀ p : List Nat, RepL K Av H (pick p ds) (pick p vs)
  | [] => .nil
  | i :: p => by
    unfold pick
    rw [List.filterMap_cons, List.filterMap_cons]
    cases e : ds[i]? with
    | none =>
      have : vs[i]? = none := by
        have l := r.length
        rw [List.getElem?_eq_none_iff] at e ⊢; omega
      rw [this]; exact pick_rep r p
    | some d =>
      obtain ⟨v, h1, h2⟩ := r.get e
      rw [h1]
      exact .cons h2 (pick_rep r p)
theorem permute_ok {ss : List D} : ∀ {p : List Nat} {us : List Slot}, permute p ss = some us → us = (pick p ss).map .val ∧ (pick p ss).length = p.length
  | [], us, h => by
    unfold permute at h
    simp at h; subst h; exact ⟨rfl, rfl⟩
  | i :: p, us, h => by
    unfold permute at h
    rw [List.mapM_cons] at h
    cases e : ss[i]? with
    | none => rw [e] at h; simp at h
    | some d =>
      rw [e] at h
      cases e2 : List.mapM (fun i => Option.map Slot.val ss[i]?) p with
      | none => simp [e2] at h
      | some us' =>
        simp [e2] at h
        subst h
        obtain ⟨h1, h2⟩ := permute_ok (p := p) (us := us') e2
        have e3 : pick (i :: p) ss = d :: pick p ss := by unfold pick; rw [List.filterMap_cons, e]
        rw [e3]
        exact ⟨by rw [h1]; rfl, by simp [h2]⟩
/-- how a call with names of parameters binds -/
def KwB (K : Frag) (fd : FuncData) (ps ks : List Str) (n : Nat) (p : List Nat) : Prop :=
  ∀ (s : Shared) (us ws : List Value), K.In s.heap → us.length = n → ws.length = ks.length → BindsTo s fd ⟨us, ks.zip ws⟩ (ps.zip (pick p (us ++ ws)))
theorem vals_app {vs ws : List V} {us xs : List Value} (a : Vals vs us) (b : Vals ws xs) : Vals (vs ++ ws) (us ++ xs) := Vals.append a b

section
variable {M : Mdl} {W : WX} {Fx : Nat → Prop} {X : Cx} {C : Ctx} {pos : Pos} {k : Nat} {f : Addr} {fd : FuncData} {ps ks : List Str} {x : Str} {p : Pos} {e : Expr} {es : List Expr} {kws : List Keyword} {fi : Nat} {ms mk : List Ex} {pm : List Nat}
theorem pk_weak {t t' : TA} (h : PK X kws t) (w : ∀ σ H Q, t' σ H Q → t σ H Q) : PK X kws t' := ⟨fun pos pins s σ H Q I q => h.run pos pins s σ H Q I (w σ H Q q)⟩
theorem kw_nil : PK X [] (LsR M W Fx (evs C [])) := pk_weak pk_nil fun σ H Q ⟨B, env, ok, h⟩ => h H [] ok Step.refl .nil
theorem kw_cons {nm : Option Str} {kpos : Pos} {m : Ex} {ms : List Ex} (he : PE X e (EvR M W Fx (m C))) (hr : PK X kws (LsR M W Fx (evs C ms))) : PK X (⟨nm, e, kpos⟩ :: kws) (LsR M W Fx (evs C (m :: ms))) := by
  refine pk_weak (pk_cons he hr) fun σ H Q ⟨B, env, ok, h⟩ => ?_
  refine EvR.val ok h fun d e1 H1 x ok1 st1 r1 q => ?_
  refine LsR.then ok1 q fun ds e2 H2 vs ok2 st2 r2 q => ?_
  exact q H2 (x :: vs) ok2 (st1.trans st2) (.cons (r1.step ok1 st2) r2)
theorem evs_app : ∀ {ms mk : List Ex} {e : Env}, evs C (ms ++ mk) e = (evs C ms e).bind fun ds e => (evs C mk e).bind fun es e => .ok (ds ++ es) e
  | [], mk, e => by
    show evs C mk e = (evs C mk e).bind fun es e => .ok ([] ++ es) e
    cases evs C mk e <;> rfl
  | m :: ms, mk, e => by
    show ((val (m C e)).bind fun x e => (evs C (ms ++ mk) e).bind fun ds e => .ok (x :: ds) e) = ((val (m C e)).bind fun x e => (evs C ms e).bind fun ds e => .ok (x :: ds) e).bind _
    cases val (m C e) with
    | no => rfl
    | exc _ _ _ => rfl
    | ok x e1 =>
      show (evs C (ms ++ mk) e1).bind _ = ((evs C ms e1).bind _).bind _
      rw [evs_app]
      cases evs C ms e1 with
      | no => rfl
      | exc _ _ _ => rfl
      | ok ds e2 =>
        show ((evs C mk e2).bind _).bind _ = (evs C mk e2).bind _
        cases evs C mk e2 <;> rfl
theorem evs_len : ∀ {ms : List Ex} {e e' : Env} {ds : List D}, evs C ms e = .ok ds e' → ds.length = ms.length
  | [], _, _, _, h => by cases h; rfl
  | m :: ms, e, e', ds, h => by
    have h : ((val (m C e)).bind fun x e => (evs C ms e).bind fun ds e => .ok (x :: ds) e) = .ok ds e' := h
    cases hm : val (m C e) with
    | no => rw [hm] at h; cases h
    | exc _ _ _ => rw [hm] at h; cases h
    | ok x e1 =>
      rw [hm] at h
      have h : ((evs C ms e1).bind fun ds e => .ok (x :: ds) e) = .ok ds e' := h
      cases he : evs C ms e1 with
      | no => rw [he] at h; cases h
      | exc _ _ _ => rw [he] at h; cases h
      | ok ds2 e2 =>
        rw [he] at h
        cases h
        simp [evs_len he]
theorem run_kw {pins : List (Addr × Obj)} {σ : St} {H : Hp} {s : Shared} {Q : VK} {us ws : List Value} {vs zs : List V} (F : FnOk X.prog X.w X.K X.mg X.base (CX X.prog X.w) k f fd ps (spOf M C ps.length fi)) (hr : Room k X.A) (hb : KwB X.K fd ps ks us.length pm) (tk : Takes X W)
    (I : Inv X pins σ H s) (r : Vals vs us) (rz : Vals zs ws) (lw : ws.length = ks.length) (h : spOf M C ps.length fi (pick pm (vs ++ zs)) H Q (WE W σ)) : wpAny (model X.prog X.w) X.A (PySem.call (.ref f) us (ks.zip ws)) (EP X pins σ Q) X.xe s := by
  have r2 := pick_vals (r.append rz) pm
  refine wpAny_call (codeAny_mono (F.run X.A X.stack s H ⟨us, ks.zip ws⟩ (pick pm (us ++ ws)) (pick pm (vs ++ zs)) Q (WE W σ) hr I.env0 (hb s us ws I.kIn rfl lw) r2 h) fun r s' hq => ?_)
  cases r with
  | error e => exact passAt tk σ pins H s e s' I hq
  | ok fl =>
    cases fl with
    | ret u => exact I.after hq
    | next => exact False.elim hq
    | brk => exact False.elim hq
    | cont => exact False.elim hq
theorem LsR.both {σ : St} {H : Hp} {Q : VK} (h : EvR M W Fx (cCallK fi (ms ++ mk) pm C) σ H Q) (hl : pm.length = ps.length) :
    LsR M W Fx (evs C ms) σ H fun vs H1 => vs.length = ms.length ∧ LsR M W Fx (evs C mk) σ H1 fun zs H2 => zs.length = mk.length ∧ spOf M C ps.length fi (pick pm (vs ++ zs)) H2 Q (WE W σ) := by
  obtain ⟨B, env, ok, h⟩ := h
  have h : RRun ((evs C (ms ++ mk) env).bind fun ss e => (R.opt (permute pm ss) e).bind fun us e => back [] e (C.call fi us)) _ _ := h
  rw [evs_app, RRun.bind, RRun.bind] at h
  refine ⟨B, env, ok, ?_⟩
  cases he : evs C ms env with
  | no => rw [he] at h; exact h
  | exc _ _ _ => rw [he] at h; exact h
  | ok ds e1 =>
    rw [he] at h
    have l1 := evs_len he
    intro H1 vs o1 s1 r1
    refine ⟨by rw [← r1.length]; exact l1, B, e1, o1, ?_⟩
    have h : RRun ((evs C mk e1).bind fun es e => .ok (ds ++ es) e) _ _ := h
    rw [RRun.bind] at h
    have h := xq_step (Qo := _) s1 h
    cases he2 : evs C mk e1 with
    | no => rw [he2] at h; exact h
    | exc _ _ _ => rw [he2] at h; exact h
    | ok es e2 =>
      rw [he2] at h
      have l2 := evs_len he2
      intro H2 zs o2 s2 r2
      have h : RRun ((R.opt (permute pm (ds ++ es)) e2).bind fun us e => back [] e (C.call fi us)) (fun s env' => ∀ H' v, Post M.K B Fx σ env H env' H' s v → Q v H') (XQ M W B Fx σ env H) := h
      rw [RRun.bind, RRun.opt] at h
      obtain ⟨us, hu, h⟩ := h
      obtain ⟨p1, p2⟩ := permute_ok hu
      refine ⟨by rw [← r2.length]; exact l2, ?_⟩
      have st := s1.trans s2
      exact vals_call o2 st p1 (pick_rep ((r1.step o1 s2).append r2) pm) (by rw [p2]; exact hl) (xq_step st h)
theorem sd_callK (F : FnOk X.prog X.w X.K X.mg X.base (CX X.prog X.w) k f fd ps (spOf M C ps.length fi)) (hr : Room k X.A) (hg : Gl X x) (hm : X.mg x = some (.ref f)) (hk : PySem.W.keepIn X.K (.ref f) = true) (hb : KwB X.K fd ps ks ms.length pm) (tk : Takes X W)
    (ha : PA X (e :: es) (LsR M W Fx (evs C ms))) (hkw : PK X kws (LsR M W Fx (evs C mk))) (hl : pm.length = ps.length) (hlk : mk.length = ks.length)
    (hall : (backToKw pos (keywordEach kws X.env)).all (·.1.isSome) = true) (hks : (backToKw pos (keywordEach kws X.env)).filterMap (·.1) = ks) (hdb : (x == ("__debug__" : Str)) = false)
    (he : starEach (e :: es) X.env = (false, eval e X.env) :: starEach es X.env) (hpl : ((backTo pos (starEach (e :: es) X.env)).any (·.1) || (backToKw pos (keywordEach kws X.env)).any (·.1.isNone)) = false) :
    PE X (.Call (.Name x p) (e :: es) kws pos) (EvR M W Fx (cCallK fi (ms ++ mk) pm C)) := by
  refine ⟨fun pins s σ H Q I h => ?_⟩
  refine wpAny_Call_Name_kw (ld_glob I hg hm ?_ hdb)
  refine PySem.W.callWith_KW (h₀ := X.base) I.ok.mod.kin hk hall (thn (ha.run pos pins s σ H _ I (LsR.both h hl)) fun us s1 ⟨vs, H1, I1, r, lv, q⟩ => ?_) hpl he
  refine thn (hkw.run pos pins s1 σ H1 _ I1 q) fun ws s2 ⟨zs, H2, I2, rz, lz, q2⟩ => ⟨I2.kIn, ?_⟩
  rw [hks]
  have lu : us.length = ms.length := by rw [← r.length]; exact lv
  exact run_kw F hr (by rw [List.nil_append, lu]; exact hb) tk I2 r rz (by rw [← rz.length, lz, hlk]) q2
theorem sd_callK0 (F : FnOk X.prog X.w X.K X.mg X.base (CX X.prog X.w) k f fd ps (spOf M C ps.length fi)) (hr : Room k X.A) (hg : Gl X x) (hm : X.mg x = some (.ref f)) (hk : PySem.W.keepIn X.K (.ref f) = true) (hb : KwB X.K fd ps ks 0 pm) (tk : Takes X W)
    (hkw : PK X kws (LsR M W Fx (evs C mk))) (hl : pm.length = ps.length) (hlk : mk.length = ks.length)
    (hall : (backToKw pos (keywordEach kws X.env)).all (·.1.isSome) = true) (hks : (backToKw pos (keywordEach kws X.env)).filterMap (·.1) = ks) (hdb : (x == ("__debug__" : Str)) = false)
    (hpl : ((backTo pos (starEach [] X.env)).any (·.1) || (backToKw pos (keywordEach kws X.env)).any (·.1.isNone)) = false) :
    PE X (.Call (.Name x p) [] kws pos) (EvR M W Fx (cCallK fi mk pm C)) := by
  refine ⟨fun pins s σ H Q I h => ?_⟩
  refine wpAny_Call_Name_kw (ld_glob I hg hm ?_ hdb)
  have h0 := LsR.both (ms := []) (mk := mk) h hl
  obtain ⟨B, env, ok, h0⟩ := h0
  obtain ⟨_, h1⟩ := h0 H [] ok Step.refl .nil
  refine PySem.W.callWith_KW0 (h₀ := X.base) I.ok.mod.kin hk hall ?_ hpl
  refine thn (hkw.run pos pins s σ H _ I h1) fun ws s2 ⟨zs, H2, I2, rz, lz, q2⟩ => ⟨I2.kIn, ?_⟩
  rw [hks]
  exact run_kw (us := []) (vs := []) F hr hb tk I2 .nil rz (by rw [← rz.length, lz, hlk]) q2
end

/-! ### a def -/
/-- the slots that a def's body never stores to: the parameters that are handed by name -/
def FxOf (rp : List Bool) (i : Nat) : Prop := rp[i]? = some true
theorem mask_len : ∀ {rp : List Bool} {e : Env}, (maskP rp e).length = rp.length
  | [], _ => rfl
  | _ :: bs, [] => by simp [maskP, mask_len (rp := bs) (e := [])]
  | b :: bs, s :: e => by simp [maskP, mask_len (rp := bs) (e := e)]
theorem mask_get : ∀ {rp : List Bool} {e : Env} {i : Nat} {s : Slot}, getS (maskP rp e) i = some s → FxOf rp i ∧ getS e i = some s
  | [], _, _, _, h => by simp [maskP, getS] at h
  | b :: bs, [], i, s, h => by
    cases i with
    | zero => simp [maskP, getS] at h
    | succ i =>
      have := mask_get (rp := bs) (e := []) (i := i) (s := s) (by simpa [maskP, getS] using h)
      obtain ⟨_, z⟩ := this
      simp [getS] at z
  | b :: bs, x :: e, i, s, h => by
    cases i with
    | zero =>
      cases b with
      | true => exact ⟨rfl, by simpa [maskP, getS] using h⟩
      | false => simp [maskP, getS] at h
    | succ i =>
      obtain ⟨h1, h2⟩ := mask_get (rp := bs) (e := e) (i := i) (s := s) (by simpa [maskP, getS] using h)
      exact ⟨by simpa [FxOf] using h1, by simpa [getS] using h2⟩

section
variable {M : Mdl} {C : Ctx} {d : MDef} {N : List Str} {vs : List V} {us : List Slot} {B : Addr → Prop} {H : Hp}
theorem start_get {i : Nat} (hl : i < vs.length) : (L2.start N vs)[i]? = (vs.map some)[i]? := by
  unfold L2.start
  rw [List.getElem?_append_left (by simpa using hl)]
theorem env_get {i : Nat} (hl : i < us.length) : getS (us.map some ++ List.replicate d.nl none) i = us[i]? := by
  unfold getS
  rw [List.getElem?_append_left (by simpa using hl), List.getElem?_map]
  cases us[i]? <;> rfl
theorem env_out {i : Nat} (hl : us.length ≤ i) : getS (us.map some ++ List.replicate d.nl none) i = none := by
  unfold getS
  rw [List.getElem?_append_right (by simpa using hl), List.getElem?_replicate]
  split <;> rfl
theorem own_start {a : Addr} (hl : us.length = vs.length) : Own (L2.start N vs) (us.map some ++ List.replicate d.nl none) a ↔ Own (vs.map some) (us.map some) a := by
  constructor
  · rintro ⟨i, ds, h1, h2⟩
    by_cases hi : i < us.length
    · rw [env_get hi] at h1
      rw [start_get (by omega)] at h2
      exact ⟨i, ds, by rw [getS_map]; exact h1, h2⟩
    · rw [env_out (by omega)] at h1; cases h1
  · rintro ⟨i, ds, h1, h2⟩
    rw [getS_map] at h1
    have hi : i < us.length := (List.getElem?_eq_some_iff.mp h1).1
    exact ⟨i, ds, by rw [env_get hi]; exact h1, by rw [start_get (by omega)]; exact h2⟩
theorem start_ok (ok : EnvOk M.K B H (vs.map some) (us.map some)) (hN : N.length = vs.length + d.nl) : EnvOk M.K B H (L2.start N vs) (us.map some ++ List.replicate d.nl none) := by
  have hl : us.length = vs.length := by have := ok.len; simpa using this
  refine ⟨by unfold L2.start; simp [hl, hN], fun i s e => ?_, fun i j ds es a h1 h2 h3 h4 => ?_, ok.bd, fun a o => ok.bo a ((own_start hl).mp o)⟩
  · by_cases hi : i < us.length
    · rw [env_get hi] at e
      obtain ⟨v, e1, r⟩ := ok.rep i s (by rw [getS_map]; exact e)
      exact ⟨v, by rw [start_get (by omega)]; exact e1, r.less fun a q => q.elim .inl fun o => .inr ((own_start hl).mp o)⟩
    · rw [env_out (by omega)] at e; cases e
  · by_cases hi : i < us.length
    · by_cases hj : j < us.length
      · rw [env_get hi] at h1; rw [env_get hj] at h2
        rw [start_get (by omega)] at h3 h4
        exact ok.uniq i j ds es a (by rw [getS_map]; exact h1) (by rw [getS_map]; exact h2) h3 h4
      · rw [env_out (by omega)] at h2; cases h2
    · rw [env_out (by omega)] at h1; cases h1

/-- behind the body: what the caller is told -/
theorem done_ok {Bx : Addr → Prop} {σ' : St} {e' : Env} {H' : Hp} (hl : us.length = vs.length) (hr : d.rp.length = vs.length) (ok : EnvOk M.K Bx H' σ' e') (st : Step (FxOf d.rp) (L2.start N vs) (us.map some ++ List.replicate d.nl none) H σ' e' H') :
    EnvOk M.K Bx H' (vs.map some) (maskP d.rp e') ∧ Step Top (vs.map some) (us.map some) H (vs.map some) (maskP d.rp e') H' ∧ ∀ a, Avd Bx (vs.map some) (maskP d.rp e') a → Avd Bx σ' e' a := by
  have slot : ∀ {i : Nat}, FxOf d.rp i → i < vs.length ∧ σ'[i]? = (vs.map some)[i]? := fun {i} f => by
    have hi : i < d.rp.length := (List.getElem?_eq_some_iff.mp f).1
    exact ⟨by omega, (st.fx i f).trans (start_get (by omega))⟩
  have ow : ∀ {a : Addr}, Own (vs.map some) (maskP d.rp e') a → Own σ' e' a := fun {a} ⟨i, ds, h1, h2⟩ => by
    obtain ⟨f, h⟩ := mask_get h1
    exact ⟨i, ds, h, by rw [(slot f).2]; exact h2⟩
  have av : ∀ a, Avd Bx (vs.map some) (maskP d.rp e') a → Avd Bx σ' e' a := fun a q => q.elim .inl fun o => .inr (ow o)
  refine ⟨⟨by rw [mask_len, List.length_map]; exact hr, fun i s e => ?_, fun i j ds es a h1 h2 h3 h4 => ?_, ok.bd, fun a o => ok.bo a (ow o)⟩, ⟨fun a o e n => st.keep a o e fun q => n ((own_start hl).mp q), fun a o => ?_, fun _ h => h.elim⟩, av⟩
  · obtain ⟨f, h⟩ := mask_get e
    obtain ⟨v, e1, r⟩ := ok.rep i s h
    exact ⟨v, by rw [← (slot f).2]; exact e1, r.less av⟩
  · obtain ⟨f1, g1⟩ := mask_get h1
    obtain ⟨f2, g2⟩ := mask_get h2
    exact ok.uniq i j ds es a g1 g2 (by rw [(slot f1).2]; exact h3) (by rw [(slot f2).2]; exact h4)
  · exact (st.own a (ow o)).elim (fun q => .inl ((own_start hl).mp q)) .inr
/-- the body's reading from the def's promise -/
theorem body_read {n fi : Nat} {P : Prog} {Q : VK} {E : XK} (hd : P.defs[fi]? = some d) (hN : N.length = d.rp.length + d.nl) (h : spOf M ⟨call P (n + 1), P.fuel⟩ d.rp.length fi vs H Q E) :
    SvR M (fun cls dx _ H => E cls dx H) (FxOf d.rp) (d.body ⟨call P n, P.fuel⟩) { nx := fun _ H' => Q .non H', rt := Q } (L2.start N vs) H := by
  obtain ⟨lv, Bx, us, ok, h⟩ := h
  have hl : us.length = vs.length := by have := ok.len; simpa using this
  have h : CRun M Bx us vs H Q E (callF ⟨call P n, P.fuel⟩ us P.defs[fi]?) := h
  rw [hd] at h
  have h : CRun M Bx us vs H Q E (runD ⟨call P n, P.fuel⟩ d us) := h
  unfold runD at h
  rw [if_pos (by omega)] at h
  refine ⟨Bx, us.map some ++ List.replicate d.nl none, start_ok (d := d) ok (by omega), ?_⟩
  cases e : d.body ⟨call P n, P.fuel⟩ (us.map some ++ List.replicate d.nl none) with
  | no => rw [e] at h; exact h
  | brk _ => rw [e] at h; exact h.elim
  | cont _ => rw [e] at h; exact h.elim
  | next e' =>
    rw [e] at h
    intro σ' H' o s
    obtain ⟨o1, s1, _⟩ := done_ok hl lv.symm o s
    exact h H' .non (Post.val o1 s1 rfl)
  | ret sl e' =>
    rw [e] at h
    intro σ' H' v p
    obtain ⟨o1, s1, av⟩ := done_ok hl lv.symm p.ok p.st
    refine h H' v ⟨o1, s1, p.rep.less av, fun a t => ?_, p.nrd⟩
    obtain ⟨n1, n2⟩ := p.new a t
    exact ⟨n1, n2.elim (fun q => .inl ((own_start hl).mp q)) .inr⟩
  | exc c ds e' =>
    rw [e] at h
    intro σ' H' dx p
    obtain ⟨o1, s1, av⟩ := done_ok hl lv.symm p.ok p.st
    exact h H' dx ⟨o1, s1, M.xl _ _ _ _ _ _ av p.x⟩
end
end Ev
end
section
set_option linter.all false
set_option maxRecDepth 100000
set_option maxHeartbeats 2000000
/-! the head's facts: defs by their addresses, and whatever else can be looked up -/
namespace Hx
open PySem PySem.Spec PyProof.Rows L2
abbrev Frag := PySem.W.Frag
/-- a def: where it stands, its name, qualified name, parameters, body, scope; no defaults -/
structure DefA where
  ad : Frag → Addr
  name : Str
  qual : Str
  params : Arguments
  body : List Stmt
  scope : Scope
def fnA (K : Frag) (a : Addr) : He.FnW := match K.lookup a with
  | some ⟨_, _, .func fd, _⟩ => some (fd.name, fd.qualname, fd.params, fd.body, fd.scope, fd.globals, fd.closure, fd.builtins)
  | _ => none
def DefA.val (d : DefA) : He.FnW := some (d.name, d.qual, d.params, .stmts d.body, d.scope, mainGlobals, [], builtinsNs)
def DefA.ok (K : Frag) (d : DefA) : Bool := PySem.W.keepIn K (.ref (d.ad K)) && (match K.lookup (d.ad K) with
  | some ⟨_, _, .func fd, _⟩ => PySem.W.codeIn K fd.code d.qual && (He.dflB K fd.defaults [] && He.kwdB K fd.kwdefaults [])
  | _ => false)
theorem DefA.funD {K : Frag} {d : DefA} (e : fnA K (d.ad K) = d.val) (c : d.ok K = true) : ∃ fd, FunD K d.name d.qual d.params d.body d.scope [] [] (d.ad K) fd := by
  obtain ⟨kp, c2⟩ := He.ba c
  unfold fnA at e
  cases q : K.lookup (d.ad K) with
  | none =>
    rw [q] at c2
    cases c2
  | some o =>
    obtain ⟨oc, od, dt, osl⟩ := o
    rw [q] at c2 e
    cases dt with
    | func fd =>
      obtain ⟨n1, n2, n3, n4, n5, n6, n7, n8, n9, n10, n11, n12, n13, n14, n15⟩ := fd
      have e2 : (some (n1, n2, n3, n4, n5, n6, n7, n15) : He.FnW) = some (d.name, d.qual, d.params, .stmts d.body, d.scope, mainGlobals, [], builtinsNs) := e
      simp only [Option.some.injEq, Prod.mk.injEq] at e2
      obtain ⟨h1, h2, h3, h4, h5, h6, h7, h8⟩ := e2
      have c3 : (PySem.W.codeIn K n13 d.qual && (He.dflB K n8 [] && He.kwdB K n9 [])) = true := c2
      obtain ⟨k1, k2⟩ := He.ba c3
      obtain ⟨k3, k4⟩ := He.ba k2
      subst h1 h2 h3 h4 h5 h6 h7 h8
      exact ⟨_, ⟨oc, od, n8, n9, n10, n11, n12, n13, n14, osl, rfl, q, k1, He.dflB_ok k3, He.kwdB_ok k4⟩, kp⟩
    | _ => cases c2
abbrev AlX : Type := Bool × List He.FnW
def obsX (fa : List He.Fa) (fn : List DefA) (ex : List (Frag → Bool)) (K : Frag) : AlX := (((fa.all fun f => f.ok K) && fn.all fun d => d.ok K) && ex.all fun x => x K, fn.map fun d => fnA K (d.ad K))
def valX (fn : List DefA) : AlX := (true, fn.map DefA.val)
def SaysX (fa : List He.Fa) (fn : List DefA) (ex : List (Frag → Bool)) (K : Frag) : Prop := obsX fa fn ex K = valX fn
def obsXG (n : Nat) (fa : List He.Fa) (fn : List DefA) (ex : List (Frag → Bool)) (g : Addr → Option Obj) : AlX := obsX fa fn ex (He.frG g (He.asD g n))
def hookX (n : Nat) (fa : List He.Fa) (fn : List DefA) (ex : List (Frag → Bool)) : PySem.W.Hook where
  α := AlX
  obs := fun s => obsXG n fa fn ex s.heap.get?
  val := fun _ => valX fn
  says := fun _ h => ∃ K : Frag, K.In h ∧ SaysX fa fn ex K
  of := fun _ _ e => ⟨_, He.frG_in, e⟩
  keeps := fun _ _ _ ⟨K, hK, c⟩ k => ⟨K, PySem.W.Frag.In.keeps hK k, c⟩
theorem obsXG_eq {n : Nat} {fa : List He.Fa} {fn : List DefA} {ex : List (Frag → Bool)} {g : Addr → Option Obj} {s : Shared} (h : ∀ a, g a = s.heap.get? a) : obsXG n fa fn ex g = (hookX n fa fn ex).obs s := by
  have e : g = s.heap.get? := funext h
  rw [e] <;> rfl
section
variable {fa : List He.Fa} {fn : List DefA} {ex : List (Frag → Bool)} {K : Frag}
theorem SaysX.all (c : SaysX fa fn ex K) : (((fa.all fun f => f.ok K) && fn.all fun d => d.ok K) && ex.all fun x => x K) = true := congrArg (fun z : AlX => z.1) c
theorem SaysX.fact (c : SaysX fa fn ex K) (i : Nat) {f : He.Fa} (h : fa[i]? = some f) : f.ok K = true :=
  List.all_eq_true.mp (He.ba (He.ba c.all).1).1 f (List.mem_of_getElem? h)
theorem SaysX.extra (c : SaysX fa fn ex K) {x : Frag → Bool} (h : x ∈ ex) : x K = true := List.all_eq_true.mp (He.ba c.all).2 x h
theorem SaysX.def_ (c : SaysX fa fn ex K) (i : Nat) {d : DefA} (h : fn[i]? = some d) : ∃ fd, FunD K d.name d.qual d.params d.body d.scope [] [] (d.ad K) fd := by
  have c2 := (He.ba (He.ba c.all).1).2
  have e : fn.map (fun d => fnA K (d.ad K)) = fn.map DefA.val := congrArg (fun z : AlX => z.2) c
  have e2 : (fn.map fun d => fnA K (d.ad K))[i]? = (fn.map DefA.val)[i]? := by rw [e]
  rw [List.getElem?_map, List.getElem?_map, h] at e2
  exact DefA.funD (Option.some.inj e2) (List.all_eq_true.mp c2 d (List.mem_of_getElem? h))
end
/-! ### classes with slots -/
def eqB {α : Type} [DecidableEq α] (a b : α) : Bool := decide (a = b)
/-- what the name f stands for in the class C -/
def atA (K : Frag) (C f : Str) : Addr := match PySem.W.findIn K (.ref (He.ga K C)) f with
  | some (some (.ref a)) => a
  | _ => 0
def sclsB (C : Str) (K : Frag) : Bool := PySem.W.plainGet K (He.ga K C) Str.empty && (PySem.W.isClsIn K (He.ga K C) && (PySem.W.plainOver K (He.ga K C) && He.eqO (PySem.W.findIn K (.ref (He.ga K C)) "__setattr__") (some (some (.builtin "object.__setattr__")))))
theorem sclsB_ok {C : Str} {K : Frag} (h : sclsB C K = true) : SlX.SCls K (He.ga K C) := by
  obtain ⟨h1, h⟩ := He.ba h
  obtain ⟨h2, h⟩ := He.ba h
  obtain ⟨h3, h4⟩ := He.ba h
  exact ⟨h1, h2, h3, He.eqO_ok h4⟩
def slotB (C f : Str) (i : Nat) (K : Frag) : Bool := He.eqO (PySem.W.findIn K (.ref (He.ga K C)) f) (some (some (.ref (atA K C f)))) && (He.eqO (PySem.W.specialIn K (.ref (atA K C f)) "__get__") (some (some (.builtin "member_descriptor.__get__"))) &&
  (eqB (PySem.W.takesIn K (.ref (atA K C f))) (some true) && (eqB (PySem.W.typeIn K (.ref (atA K C f))) (some (.type "member_descriptor")) && (eqB (PySem.W.slotIn K (atA K C f) (He.ga K C)) (some i) && decide (i < 1000)))))
theorem slotB_ok {C f : Str} {i : Nat} {K : Frag} (h : slotB C f i K = true) : SlX.Slot1 K (He.ga K C) f (atA K C f) i := by
  obtain ⟨h1, h⟩ := He.ba h
  obtain ⟨h2, h⟩ := He.ba h
  obtain ⟨h3, h⟩ := He.ba h
  obtain ⟨h4, h⟩ := He.ba h
  obtain ⟨h5, h6⟩ := He.ba h
  exact ⟨He.eqO_ok h1, He.eqO_ok h2, of_decide_eq_true h3, of_decide_eq_true h4, of_decide_eq_true h5, of_decide_eq_true h6⟩
/-- a property's getter -/
def getA (C f : Str) (K : Frag) : Addr := match PySem.W.recIn K (atA K C f) "property" with
  | some (.ref g :: _) => g
  | _ => 0
def propB (C f : Str) (K : Frag) : Bool := He.eqO (PySem.W.findIn K (.ref (He.ga K C)) f) (some (some (.ref (atA K C f)))) && (He.eqO (PySem.W.specialIn K (.ref (atA K C f)) "__get__") (some (some (.builtin "property.__get__"))) &&
  (eqB (PySem.W.takesIn K (.ref (atA K C f))) (some true) && (match PySem.W.recIn K (atA K C f) "property" with
    | some (.ref g :: _) => decide (g = getA C f K)
    | _ => false)))
theorem propB_ok {C f : Str} {K : Frag} (h : propB C f K = true) : PySem.W.findIn K (.ref (He.ga K C)) f = some (some (.ref (atA K C f))) ∧ PySem.W.specialIn K (.ref (atA K C f)) "__get__" = some (some (.builtin "property.__get__")) ∧
    PySem.W.takesIn K (.ref (atA K C f)) = some true ∧ ∃ rest, PySem.W.recIn K (atA K C f) "property" = some (.ref (getA C f K) :: rest) := by
  obtain ⟨h1, h⟩ := He.ba h
  obtain ⟨h2, h⟩ := He.ba h
  obtain ⟨h3, h4⟩ := He.ba h
  refine ⟨He.eqO_ok h1, He.eqO_ok h2, of_decide_eq_true h3, ?_⟩
  cases e : PySem.W.recIn K (atA K C f) "property" with
  | none => rw [e] at h4; cases h4
  | some l =>
    rw [e] at h4
    cases l with
    | nil => cases h4
    | cons v rest =>
      cases v with
      | ref g =>
        have : g = getA C f K := of_decide_eq_true h4
        rw [this]
        exact ⟨rest, rfl⟩
      | _ => cases h4
end Hx
end
section
set_option linter.all false
set_option maxRecDepth 100000
set_option maxHeartbeats 2000000
/-! soundness 14: fields of kept instances -/
namespace Ev
open PySem L2
/-- the k-th slot of an instance of the class c -/
theorem gFld_some {c : Str} {k : Nat} {d : D} {s : Slot} (h : gFld c k d = some s) : ∃ ds d', d = .dict [(.str c, .tuple ds)] ∧ ds[k]? = some d' ∧ s = .val d' := by
  unfold gFld at h
  split at h
  · rename_i x ds
    split at h
    · rename_i e
      subst e
      obtain ⟨d', h1, h2⟩ := Option.map_eq_some_iff.mp h
      exact ⟨ds, d', rfl, h1, h2.symm⟩
    · cases h
  · cases h
section
variable {K : Frag} {Av : Addr → Prop} {H : Hp}
theorem atom_rep : ∀ {d : D} {v : V}, atomV d = some v → Rep K Av H d v
  | .none, _, h => (Option.some.inj h).symm
  | .bool _, _, h => (Option.some.inj h).symm
  | .int _, _, h => (Option.some.inj h).symm
  | .str _, _, h => (Option.some.inj h).symm
theorem flat_repL' : ∀ {ds : List D} {vs : List V}, FlatL ds vs → RepL K Av H ds vs
  | [], _, h => h
  | d :: ds, _, h => by
    obtain ⟨v, r, e, h1, h2⟩ := h
    exact ⟨v, r, e, atom_rep h1, flat_repL' h2⟩
theorem RepF.rep : ∀ {d : D} {v : V}, RepF K H d v → Rep K Av H d v
  | .none, _, h => atom_rep (d := .none) h
  | .bool b, _, h => atom_rep (d := .bool b) h
  | .int i, _, h => atom_rep (d := .int i) h
  | .str x, _, h => atom_rep (d := .str x) h
  | .list _, _, h => by cases h
  | .dict _, _, h => by cases h
  | .tuple ds, _, h => by
    obtain ⟨a, vs, e, s, f⟩ := h
    exact ⟨a, vs, e, s, flat_repL' f⟩
theorem RepFs.get : ∀ {ds : List D} {vs : List V} {k : Nat} {d : D}, RepFs K H ds vs → ds[k]? = some d → ∃ v, vs[k]? = some v ∧ RepF K H d v
  | [], _, _, _, _, e => by simp at e
  | d :: ds, _, 0, _, h, e => by
    obtain ⟨v, r, rfl, h1, h2⟩ := h
    simp at e; subst e
    exact ⟨v, rfl, h1⟩
  | d :: ds, _, k + 1, _, h, e => by
    obtain ⟨v, r, rfl, h1, h2⟩ := h
    obtain ⟨w, e1, e2⟩ := RepFs.get (k := k) h2 (by simpa using e)
    exact ⟨w, by simpa using e1, e2⟩
end
section
variable {M : Mdl} {W : WX} {Fx : Nat → Prop} {X : Cx} {C : Ctx}
/-- e.f, f a slot -/
theorem sd_fld {e : Expr} {f c : Str} {p : Pos} {k : Nat} {q : Addr} {m : Ex} (hK : X.K = M.K) (hc : SlX.SCls X.K (He.ga X.K c)) (hs : SlX.Slot1 X.K (He.ga X.K c) f q k) (ha : PE X e (EvR M W Fx (m C)))
    (hb : attributeBase e f X.env (eval e X.env) = eval e X.env := by rfl) : PE X (.Attribute e f p) (EvR M W Fx (cFld c k m C)) := by
  refine pe_weak (SlX.pe_sl ha hb) fun σ H Q h => ?_
  obtain ⟨B, env, ok, h⟩ := c1_read σ H Q h
  refine ⟨B, env, ok, h.imp (fun s e f H' v p => ?_) fun _ _ _ q => q⟩
  obtain ⟨B', σ', env', dx, sl, ok', px, hg, q⟩ := f H' v p
  obtain ⟨ds, d', rfl, h1, rfl⟩ := gFld_some hg
  obtain ⟨x, ds', a, dxx, vs, e1, rfl, s1, fs⟩ := rep_inst (Av := fun _ => True) px
  cases e1
  obtain ⟨w, h2, h3⟩ := fs.get h1
  rw [hK] at hc hs ⊢
  exact ⟨a, _, dxx, _, _, k, w, rfl, s1, hc, hs, by rw [List.getElem?_map, h2]; rfl, q _ _ (Post.val ok' Step.refl h3.rep)⟩
/-! ### properties -/
/-- e.f, f a property whose getter is the def fi -/
theorem isInst_ok {c : Str} {d : D} (h : isInst c d = true) : ∃ ds, d = .dict [(.str c, .tuple ds)] := by
  unfold isInst at h
  split at h
  · rename_i x ds
    have := of_decide_eq_true h
    subst this
    exact ⟨ds, rfl⟩
  · cases h
theorem noX_run {α : Type} {r : R α} {Qo : α → Env → Prop} {Xo Xo' : Nat → List D → Env → Prop} (h : RRun (noX r) Qo Xo) : RRun r Qo Xo' := by
  cases r with
  | ok a e => exact h
  | exc _ _ _ => exact h.elim
  | no => exact h.elim
theorem back_noX {e : Env} {r : CR} {s : Slot} {ps : List (Option Slot)} : back [] e r = .ok s e → True := fun _ => trivial
/-- a getter's promise: nothing is raised -/
theorem spOf_calm {n fi : Nat} {vs : List V} {H : Hp} {Q : VK} {E : XK} {us : List Slot} {e1 : Env} {r : Slot → Env → Prop} {x : Nat → List D → Env → Prop} (h : spOf M C n fi vs H Q E) : spOf M C n fi vs H Q E := h
theorem sd_prp {e : Expr} {f c : Str} {p : Pos} {fi n : Nat} {q g : Addr} {m : Ex} {CX : CXT} (hK : X.K = M.K) (hc : SlX.SCls X.K (He.ga X.K c)) (at_ : PySem.W.findIn X.K (.ref (He.ga X.K c)) f = some (some (.ref q)))
    (get : PySem.W.specialIn X.K (.ref q) "__get__" = some (some (.builtin "property.__get__"))) (tk : PySem.W.takesIn X.K (.ref q) = some true) (rc : ∃ rest, PySem.W.recIn X.K q "property" = some (.ref g :: rest))
    (F : FnR X.prog X.w X.K X.mg X.base CX n g (spOf M C 1 fi)) (hr : Room (n + 1) X.A) (hx : ∀ (H : Hp) (s : Shared) (e : Value) (s' : Shared), CX X.stack H s (fun _ _ _ => False) e s' → False) (ha : PE X e (EvR M W Fx (m C)))
    (hb : attributeBase e f X.env (eval e X.env) = eval e X.env := by rfl) : PE X (.Attribute e f p) (EvR M W Fx (cPrp c fi m C)) := by
  refine pe_weak (SlX.pe_propSl ha hc at_ get tk rc F hr hx hb) fun σ H Q ⟨B, env, ok, h⟩ => ?_
  refine EvR.val ok h fun d e1 H1 x ok1 st1 r1 q => ?_
  have q : RRun (if isInst c d = true then noX (back [] e1 (C.call fi [.val d])) else .no) _ _ := q
  by_cases hi : isInst c d = true
  · rw [if_pos hi] at q
    obtain ⟨ds, rfl⟩ := isInst_ok hi
    have r2 := r1
    obtain ⟨x, ds', a, dxx, vs, z1, rfl, s1, fs⟩ := rep_inst (Av := fun _ => True) r2
    cases z1
    rw [hK]
    refine ⟨a, dxx, _, rfl, s1, ?_⟩
    have v := vals_call (M := M) (W := fun _ _ _ _ => False) (Fx := Fx) (C := C) (ps := ["self"]) (fi := fi) (Q := Q) ok1 st1 (us := [.val (.dict [(.str c, .tuple ds)])]) rfl (RepL.cons r1 .nil) rfl (noX_run q)
    exact v
  · rw [if_neg hi] at q
    exact q.elim
end
end Ev
end
section
set_option linter.all false
set_option maxRecDepth 100000
set_option maxHeartbeats 2000000
/-! soundness 14l: len(x) of a kept instance -/
namespace LenZ
open PySem PySem.Spec PyProof.Rows L2
section
variable {P : Program} {w : World} {A : Around} {E : Value → Shared → Prop} {s : Shared} {K : PySem.W.Frag} {x C f : Addr} {ox : Obj} {odd : Option Obj}
theorem len_own {Q : Value → Shared → Prop} (X : K.In s.heap) (I : PySem.W.InstAt s.heap x ox C odd) (hs : PySem.W.findIn K (.ref C) "__len__" = some (some (.ref f))) (hf : PySem.W.isFn K (.ref f) = true)
    (h : wpAny (model P w) A.in1 (call (.ref f) [.ref x]) (fun r s1 => ∃ n u, r = Value.int n u ∧ 0 ≤ n ∧ n < 2 ^ 62 ∧ Q (.int n s1.toks) { s1 with toks := s1.toks + 1 }) E s) : wpAny (model P w) A (call (.builtin "len") [.ref x]) Q E s := by
  refine Calls.call_function_entry kind_len plain_len entry_len (args_len1 _) ?_
  unfold Builtin.«len»
  refine wpAny_bind (m := oneArg "len" _) (wpAny_pure ?_)
  refine wpAny_bind (m := callSpecial? (.ref x) (Str.ofString "__len__")) (PySem.W.special_fn X I hs (beq_iff_eq.mp hf) (wpAny_mono h (fun r s' hr => ?_) fun _ _ y => y))
  obtain ⟨n, u, rfl, h0, h1, hq⟩ := hr
  refine wpAny_bind (wpAny_holding (wpAny_pure ?_))
  refine wpAny_bind (wpAny_letGo ?_)
  show wpAny _ _ (if n < 0 then _ else _) _ _ _
  rw [if_neg (by omega)]
  show wpAny _ _ (if n ≥ 2 ^ 63 then _ else _) _ _ _
  rw [if_neg (by omega)]
  exact wpAny_bind (wpAny_mkInt (wpAny_pure ⟨_, rfl, hq⟩))
end
section
variable {X : Cx} {CX : CXT} {C g : Addr} {n : Nat} {sp : Sp} {E : XK}
def rLenOwn (C : Addr) (sp : Sp) (E : XK) : List V → Hp → VK → Prop := fun xs H Q => ∃ a dx vs, xs = [V.ref a] ∧ SlX.Slt H a C dx vs ∧ sp [.ref a] H (fun z H' => ∃ i : Int, z = .int i ∧ 0 ≤ i ∧ i < 2 ^ 62 ∧ Q z H') E
theorem call_lenOwn (hs : PySem.W.findIn X.K (.ref C) "__len__" = some (some (.ref g))) (hf : PySem.W.isFn X.K (.ref g) = true) (F : FnR X.prog X.w X.K X.mg X.base CX n g sp) (hr : Room (n + 1) X.A) (hx : Passes CX X E) : CallR X (.builtin "len") (rLenOwn C sp E) := by
  intro pins s σ H xs us Q I r h
  obtain ⟨a, dx, vs, rfl, hsl, q⟩ := h
  obtain ⟨u, rfl, ru⟩ := r.one
  cases (show u = Value.ref a from ru)
  obtain ⟨sl, od, _, J, _⟩ := SlX.slt_inst I hsl
  refine len_own I.kIn J hs hf (wpAny_mono (wpAny_call (SlX.run_at (us := [.ref a]) (ws := [.ref a]) F hr.in1 I.env0.in1 hx I (.cons rfl .nil) q)) (fun v s' z => ?_) fun _ _ x => x)
  obtain ⟨z', H', I', rz, i, ei, h0, h1, qz⟩ := z
  subst ei
  obtain ⟨t, e⟩ := (show ∃ t, v = Value.int i t from rz)
  cases e
  exact ⟨i, t, rfl, h0, h1, .int i, H', I'.tok _, ⟨_, rfl⟩, qz⟩
end
end LenZ
namespace Ev
open PySem L2
section
variable {M : Mdl} {W : WX} {Fx : Nat → Prop} {X : Cx} {C : Ctx}
theorem lenK_ok {s : Slot} {e : Env} {Qo : Slot → Env → Prop} {Xo : Nat → List D → Env → Prop} (h : RRun (lenK s e) Qo Xo) : ∃ k : Int, s = .val (.int k) ∧ 0 ≤ k ∧ k < 2 ^ 62 ∧ Qo (.val (.int k)) e := by
  unfold lenK at h
  split at h
  · rename_i k
    by_cases c : (decide (0 ≤ k) && decide (k < 2 ^ 62)) = true
    · rw [if_pos c] at h
      rw [Bool.and_eq_true] at c
      exact ⟨k, rfl, of_decide_eq_true c.1, of_decide_eq_true c.2, h⟩
    · rw [if_neg c] at h; exact h.elim
  · exact h.elim
theorem sd_len {a : Expr} {c : Str} {p q : Pos} {fi n : Nat} {g : Addr} {m : Ex} (hK : X.K = M.K) (hcm : X.calm = true) (hg : Gl X "len") (hm : X.mg "len" = none) (hc : SlX.SCls X.K (He.ga X.K c)) (mt : Meth X.K (He.ga X.K c) "__len__" g)
    (F : FnR X.prog X.w X.K X.mg X.base (CX X.prog X.w) n g (spOf M C 1 fi)) (hr : Room (n + 1) X.A) (hx : Passes (CX X.prog X.w) X (fun _ _ _ => False)) (ha : PE X a (EvR M W Fx (m C))) (hs : starEach [a] X.env = (false, eval a X.env) :: starEach [] X.env) :
    PE X (.Call (.Name "len" p) [a] [] q) (EvR M W Fx (cLenI c fi m C)) := by
  have r1 := cr_bi (Fx := Fx) hK hcm .len
  have r2 := LenZ.call_lenOwn mt.at_ mt.fn F hr hx
  have hor : CallR X (.builtin "len") fun xs H Q => CallD M Fx (biD .len) xs H Q ∨ LenZ.rLenOwn (He.ga X.K c) (spOf M C 1 fi) (fun _ _ _ => False) xs H Q := fun pins s σ H xs us Q I r h => h.elim (r1 pins s σ H xs us Q I r) (r2 pins s σ H xs us Q I r)
  refine pe_weak (pe_callB hor hg hm rfl (pa_cons ha pa_nil hs) (by decide) (by decide) hs) fun σ H Q ⟨B, env, ok, h⟩ => ?_
  refine EvR.val ok h fun d e1 H1 x ok1 st1 r1 q => ?_
  have q : RRun (if isInst c d = true then (noX (back [] e1 (C.call fi [.val d]))).bind lenK else opn (biD .len [d]) e1) _ _ := q
  by_cases hi : isInst c d = true
  · rw [if_pos hi, RRun.bind] at q
    obtain ⟨ds, rfl⟩ := isInst_ok hi
    have r2 := r1
    obtain ⟨x, ds', a, dxx, vs, z1, rfl, s1, fs⟩ := rep_inst (Av := fun _ => True) r2
    cases z1
    right
    refine ⟨a, dxx, _, rfl, by rw [hK]; exact s1, ?_⟩
    have q2 : RRun (back [] e1 (C.call fi [.val (.dict [(.str c, .tuple ds)])])) (fun s env' => ∀ H' v, Post M.K B Fx σ env H env' H' s v → (fun z H' => ∃ i : Int, z = V.int i ∧ 0 ≤ i ∧ i < 2 ^ 62 ∧ Q z H') v H') (XQ M (fun _ _ _ _ => False) B Fx σ e1 H1) := by
      refine (RRun.noX q).imp (fun s e hl H' v p => ?_) fun _ _ _ z => z.elim
      obtain ⟨k, rfl, k0, k1, qk⟩ := lenK_ok hl
      exact ⟨k, p.rep, k0, k1, qk H' v p⟩
    exact vals_call (M := M) (W := fun _ _ _ _ => False) (Fx := Fx) (C := C) (ps := ["self"]) (fi := fi) ok1 st1 (us := [.val (.dict [(.str c, .tuple ds)])]) rfl (RepL.cons r1 .nil) rfl q2
  · rw [if_neg hi] at q
    obtain ⟨s, hs, q⟩ := RRun.opt.mp q
    exact .inl ⟨B, σ, e1, [d], s, ok1, ⟨x, [], rfl, r1.pk, rfl⟩, hs, fun H' v p => q H' v (p.more st1)⟩
end
end Ev
end
section
set_option linter.all false
set_option maxRecDepth 100000
set_option maxHeartbeats 2000000
/-! soundness 15: instances made -/
namespace Ev
open PySem L2
section
variable {X : Cx} {CX : CXT} {k : Nat} {f C : Addr} {sp : Sp} {E : St → XK} {x : Str} {e : Expr} {es : List Expr} {t : TA} {p pos : Pos}
def tMakeS (C : Addr) (sp : Sp) (E : St → XK) (t : TA) : TE := fun σ H Q => t σ H fun vs H1 => ∀ x dx, H1 x = Option.none → H1 dx = Option.none → dx ≠ x →
  sp (V.ref x :: vs) (upd (upd H1 dx (.own x)) x (.ins C dx [])) (fun v H2 => v = .non ∧ Q (.ref x) H2) (E σ)
theorem pe_makeS (M : Mk X.K C f) (F : FnR X.prog X.w X.K X.mg X.base CX k f sp) (hr : Room (k + 1) X.A) (hg : Gl X x) (hm : X.mg x = some (.ref C)) (hx : ∀ σ, PassesAt CX X σ (E σ)) (ha : PA X (e :: es) t) (hdb : (x == ("__debug__" : Str)) = false)
    (he : starEach (e :: es) X.env = (false, eval e X.env) :: starEach es X.env) (hpl : (backTo pos (starEach es X.env)).any (·.1) = false) : PE X (.Call (.Name x p) (e :: es) [] pos) (tMakeS C sp E t) := by
  refine ⟨fun pins s σ H Q I h => ?_⟩
  refine wpAny_Call_Name_kw (ld_glob I hg hm ?_ hdb)
  refine PySem.W.callWith_K (h₀ := X.base) I.ok.mod.kin M.kp (thn (ha.run pos pins s σ H _ I h) fun us s1 ⟨vs, H1, I1, r, q⟩ => ⟨I1.kIn, ?_⟩) he hpl
  have hq := q (s1.heap.objs.size + 1) s1.heap.objs.size (I1.hok.fresh (Nat.le_succ _)) (I1.hok.fresh (Nat.le_refl _)) (Nat.ne_of_lt (Nat.lt_succ_self _))
  have I2 := Inv.made (C := C) I1
  have r2 : Vals (V.ref (s1.heap.objs.size + 1) :: vs) (Value.ref (s1.heap.objs.size + 1) :: us) := .cons rfl r
  refine wpAny_call (make_map (f := f) I1.kIn M.makes M.init (beq_iff_eq.mp M.fn) (codeAny_mono (F _ X.stack _ _ (Value.ref (s1.heap.objs.size + 1) :: us) _ _ (E σ) (hr.make C us []) (I2.env0.make C us []) r2 hq) fun r s' hq' => ?_))
  cases r with
  | error e => exact hx σ pins _ _ e s' I2 hq'
  | ok fl =>
    cases fl with
    | ret u =>
      obtain ⟨v, H', I3, rv, ev, q3⟩ := I2.after hq'
      subst ev
      exact ⟨rv, ⟨V.ref (s1.heap.objs.size + 1), H', I3, rfl, q3⟩⟩
    | next => exact False.elim hq'
    | brk => exact False.elim hq'
    | cont => exact False.elim hq'
end
section
variable {M : Mdl} {W : WX} {Fx : Nat → Prop} {X : Cx} {C : Ctx} {pos : Pos} {k n : Nat} {f : Addr} {fd : FuncData} {ps : List Str} {x : Str} {p : Pos} {e : Expr} {es : List Expr} {fi : Nat} {as : List Arg} {vs : List V} {H : Hp} {Q Q' : VK} {E : XK}
/-- an __init__'s promise, told by the def (number fi) that hands out the instance -/
def spNew (M : Mdl) (C : Ctx) (cl : Addr) (n fi : Nat) : Sp := fun vs H Q E => ∃ x dx rest H0, vs = V.ref x :: rest ∧ dx ≠ x ∧ H0 x = none ∧ H0 dx = none ∧ H = upd (upd H0 dx (.own x)) x (.ins cl dx []) ∧
  spOf M C n fi rest H0 (fun v H2 => v = V.ref x → Q .non H2) E
theorem sd_new {cl : Addr} (Mm : Mk X.K cl f) (F : FnR X.prog X.w X.K X.mg X.base (CX X.prog X.w) k f (spNew M C cl ps.length fi)) (hr : Room (k + 1) X.A) (hg : Gl X x) (hm : X.mg x = some (.ref cl)) (tk : Takes X W)
    (ha : PA X (e :: es) (AsR M W Fx as (evA C as))) (hn : (refsOf as).Nodup) (hl : as.length = ps.length) (hdb : (x == ("__debug__" : Str)) = false)
    (he : starEach (e :: es) X.env = (false, eval e X.env) :: starEach es X.env) (hpl : (backTo pos (starEach es X.env)).any (·.1) = false) : PE X (.Call (.Name x p) (e :: es) [] pos) (EvR M W Fx (cCall fi as C)) :=
  pe_weak (pe_makeS Mm F hr hg hm (passAt tk) ha hdb he hpl) fun σ H Q h => by
    obtain ⟨B, env, ok, q⟩ := AsR.call hn hl h
    refine ⟨B, env, ok, RRun.imp q (fun ss e1 q H1 vs p => ?_) fun _ _ _ q => q⟩
    intro x dx hx hd hne
    obtain ⟨l, Bx, us, ok, r⟩ := q H1 vs p
    refine ⟨x, dx, vs, H1, rfl, hne, hx, hd, rfl, l, Bx, us, ok, ?_⟩
    revert r
    cases C.call fi us with
    | no => exact id
    | ret s ps => exact fun r H' v p2 e => ⟨rfl, e ▸ r H' v p2⟩
    | exc c ds ps => exact id
end
end Ev
end
section
set_option linter.all false
set_option maxRecDepth 100000
set_option maxHeartbeats 2000000
/-! soundness 16: a constructor -/
namespace Ev
open PySem L2
/-- no list, no tuple stands there -/
structure Odd (H : Hp) (a : Addr) : Prop where
  t : ∀ vs, ¬ Rd H a (.tup vs)
  l : ∀ vs, H a ≠ some (.lst vs)
theorem Odd.ins {H : Hp} {a C dx : Addr} (h : H a = some (.ins C dx [])) : Odd H a := ⟨fun vs q => (by rcases q with q | ⟨o, q⟩ <;> (rw [h] at q; cases q)), fun vs q => by rw [h] at q; cases q⟩
theorem Odd.own {H : Hp} {a x : Addr} (h : H a = some (.own x)) : Odd H a := ⟨fun vs q => (by rcases q with q | ⟨o, q⟩ <;> (rw [h] at q; cases q)), fun vs q => by rw [h] at q; cases q⟩
theorem Odd.xd {H : Hp} {a : Addr} (h : H a = some (.xd [])) : Odd H a := ⟨fun vs q => (by rcases q with q | ⟨o, q⟩ <;> (rw [h] at q; cases q)), fun vs q => by rw [h] at q; cases q⟩
theorem Odd.slo {H : Hp} {a b C dx : Addr} {vs : List (Option V)} (h : H a = some (SlX.SlO b C dx vs)) : Odd H a :=
  ⟨fun vs q => (by rcases q with q | ⟨o, q⟩ <;> (rw [h] at q; unfold SlX.SlO at q; cases q)), fun vs q => by rw [h] at q; unfold SlX.SlO at q; cases q⟩
section
variable {K : Frag} {Av Av' : Addr → Prop} {H H' : Hp} {a dx : Addr}
theorem sqT_ch (hk : ∀ b o, H b = some o → b ≠ a → b ≠ dx → H' b = some o) (oa : Odd H a) (od : Odd H dx) {p : Addr} {vs : List V} (q : SqT K H p vs) : SqT K H' p vs := by
  rcases q with q | q
  · have na : p ≠ a := fun z => oa.t vs (z ▸ q)
    have nd : p ≠ dx := fun z => od.t vs (z ▸ q)
    rcases q with q | ⟨o, q⟩
    · exact .inl (.inl (hk p _ q na nd))
    · exact .inl (.inr ⟨o, hk p _ q na nd⟩)
  · exact .inr q
theorem repF_ch (hk : ∀ b o, H b = some o → b ≠ a → b ≠ dx → H' b = some o) (oa : Odd H a) (od : Odd H dx) : ∀ {d : D} {v : V}, RepF K H d v → RepF K H' d v
  | .none, _, q => q
  | .bool _, _, q => q
  | .int _, _, q => q
  | .str _, _, q => q
  | .list _, _, q => q
  | .tuple ds, _, q => by
    obtain ⟨a, vs, e, s, f⟩ := q
    exact ⟨a, vs, e, sqT_ch hk oa od s, f⟩
  | .dict _, _, q => q
theorem repFs_ch (hk : ∀ b o, H b = some o → b ≠ a → b ≠ dx → H' b = some o) (oa : Odd H a) (od : Odd H dx) : ∀ {ds : List D} {vs : List V}, RepFs K H ds vs → RepFs K H' ds vs
  | [], _, q => q
  | d :: ds, _, q => by
    obtain ⟨v, r, e, f, t⟩ := q
    exact ⟨v, r, e, repF_ch hk oa od f, repFs_ch hk oa od t⟩
mutual
theorem rep_ch (hk : ∀ b o, H b = some o → b ≠ a → b ≠ dx → H' b = some o) (oa : Odd H a) (od : Odd H dx) : ∀ (d : D) (v : V), noO d = true → Rep K Av H d v → Rep K Av H' d v
  | .none, _, _, h => h
  | .bool _, _, _, h => h
  | .int _, _, _, h => h
  | .str _, _, _, h => h
  | .list ds, _, n, h => by
    obtain ⟨p, vs, rfl, na, e, r⟩ := h
    exact ⟨p, vs, rfl, na, hk p _ e (fun z => oa.l vs (z ▸ e)) (fun z => od.l vs (z ▸ e)), repL_ch hk oa od ds vs n r⟩
  | .tuple ds, _, n, h => by
    obtain ⟨p, vs, rfl, e, r⟩ := h
    exact ⟨p, vs, rfl, sqT_ch hk oa od e, repL_ch hk oa od ds vs n r⟩
  | .dict _, _, n, _ => by cases n
theorem repL_ch (hk : ∀ b o, H b = some o → b ≠ a → b ≠ dx → H' b = some o) (oa : Odd H a) (od : Odd H dx) : ∀ (ds : List D) (vs : List V), noOs ds = true → RepL K Av H ds vs → RepL K Av H' ds vs
  | [], _, _, h => h
  | d :: ds, _, n, h => by
    obtain ⟨v, r, rfl, h1, h2⟩ := h
    have n : (noO d && noOs ds) = true := n
    rw [Bool.and_eq_true] at n
    exact ⟨v, r, rfl, rep_ch hk oa od d v n.1 h1, repL_ch hk oa od ds r n.2 h2⟩
end
theorem flat_atom : ∀ {d : D} {v : V}, flat d = true → Rep K Av H d v → atomV d = some v
  | .none, _, _, h => by rw [show _ = _ from h]; rfl
  | .bool _, _, _, h => by rw [show _ = _ from h]; rfl
  | .int _, _, _, h => by rw [show _ = _ from h]; rfl
  | .str _, _, _, h => by rw [show _ = _ from h]; rfl
theorem flat_L : ∀ {ds : List D} {vs : List V}, ds.all flat = true → RepL K Av H ds vs → FlatL ds vs
  | [], _, _, h => h
  | d :: ds, _, n, h => by
    obtain ⟨v, r, e, h1, h2⟩ := h
    rw [List.all_cons, Bool.and_eq_true] at n
    exact ⟨v, r, e, flat_atom n.1 h1, flat_L n.2 h2⟩
theorem fld_F : ∀ {d : D} {v : V}, fldB d = true → Rep K Av H d v → RepF K H d v
  | .none, _, n, h => flat_atom (d := .none) rfl h
  | .bool _, _, n, h => flat_atom (d := .bool _) rfl h
  | .int _, _, n, h => flat_atom (d := .int _) rfl h
  | .str _, _, n, h => flat_atom (d := .str _) rfl h
  | .tuple ds, _, n, h => by
    obtain ⟨p, vs, e, s, r⟩ := h
    exact ⟨p, vs, e, s, flat_L n r⟩
theorem repFs_snoc : ∀ {ds : List D} {vs : List V} {d : D} {v : V}, RepFs K H ds vs → RepF K H d v → RepFs K H (ds ++ [d]) (vs ++ [v])
  | [], _, d, v, h, f => by rw [show _ = [] from h]; exact ⟨v, [], rfl, f, rfl⟩
  | x :: ds, _, d, v, h, f => by
    obtain ⟨y, r, e, g, t⟩ := h
    subst e
    exact ⟨y, r ++ [v], rfl, g, repFs_snoc t f⟩
theorem repFs_len : ∀ {ds : List D} {vs : List V}, RepFs K H ds vs → vs.length = ds.length
  | [], _, h => by rw [show _ = [] from h]; rfl
  | x :: ds, _, h => by
    obtain ⟨y, r, e, g, t⟩ := h
    subst e
    simp [repFs_len t]
end
/-- what a constructor's body does, told of the heap H0 ahead of the making -/
def GOut (M : Mdl) (W : WX) (B : Addr → Prop) (H0 : Hp) (a : Addr) (Z : Ends) : CR → Prop
  | .ret s _ => ∀ σ' H' d, s = .val d → (∀ b o, H0 b = some o → H' b = some o) → (∀ Av, Rep M.K Av H' d (.ref a)) → Z.nx σ' H'
  | .exc x ds _ => ∀ σ' H' dx' Av, (∀ b o, H0 b = some o → H' b = some o) → (∀ b, B b → Av b) → M.xr x ds Av H' dx' → W (M.cls x) dx' σ' H'
  | .no => False
/-- the instance under way -/
structure GIn (K : Frag) (c : Str) (a dx : Addr) (fs : List D) (H : Hp) : Prop where
  ne : dx ≠ a
  ex : ∃ vs : List V, SlX.Slt H a (He.ga K c) dx (vs.map some) ∧ RepFs K H fs vs
  od : H dx = some (.own a) ∨ H dx = some (.xd [])
theorem GIn.snap {K : Frag} {c : Str} {a dx : Addr} {fs : List D} {H : Hp} (g : GIn K c a dx fs H) {Av : Addr → Prop} : Rep K Av H (snap c fs) (.ref a) := by
  obtain ⟨vs, s, f⟩ := g.ex
  exact .inl ⟨c, fs, a, dx, vs, rfl, rfl, s, f⟩
theorem GIn.odd {K : Frag} {c : Str} {a dx : Addr} {fs : List D} {H : Hp} (g : GIn K c a dx fs H) : Odd H dx := g.od.elim Odd.own Odd.xd
theorem GIn.oa {K : Frag} {c : Str} {a dx : Addr} {fs : List D} {H : Hp} (g : GIn K c a dx fs H) : Odd H a := by
  obtain ⟨vs, s, f⟩ := g.ex
  rcases s with ⟨s, _⟩ | ⟨s, _⟩
  · exact Odd.ins s
  · exact Odd.slo s
def GnR (M : Mdl) (W : WX) (c : Str) (a dx : Addr) (H0 : Hp) (B : Addr → Prop) (r : List D → Env → CR) (k : Nat) : TS := fun Z σ H => ∃ fs env, fs.length = k ∧ EnvOk M.K B H σ (none :: env) ∧ env.all okS = true ∧ σ[0]? = some (some (.ref a)) ∧
  GIn M.K c a dx fs H ∧ H0 a = none ∧ H0 dx = none ∧ (∀ b o, H0 b = some o → H b = some o) ∧ GOut M W B H0 a Z (r fs env)
theorem getS_ok {env : Env} (h : env.all okS = true) {i : Nat} {s : Slot} (e : getS env i = some s) : ∃ d, s = .val d ∧ noO d = true := by
  have e : (env[i]?).join = some s := e
  cases g : env[i]? with
  | none => rw [g] at e; cases e
  | some so =>
    rw [g] at e
    have e : so = some s := e
    subst e
    have := List.all_eq_true.mp h _ (List.mem_of_getElem? g)
    cases s with
    | val d => exact ⟨d, rfl, this⟩
    | own _ => cases this
    | rd _ => cases this
theorem ok_noOwn {σ : St} {env : Env} {so : Option Slot} (h : env.all okS = true) (h0 : okS so = true ∨ ∃ d, so = some (.val d)) {a : Addr} : ¬ Own σ (so :: env) a := by
  rintro ⟨i, ds, e, _⟩
  cases i with
  | zero =>
    have e : so = some (.own ds) := by cases so <;> exact e
    subst e
    rcases h0 with h0 | ⟨d, h0⟩
    · cases h0
    · cases h0
  | succ i =>
    obtain ⟨d, z, _⟩ := getS_ok h (i := i) e
    cases z
theorem env_snap {K : Frag} {B : Addr → Prop} {H : Hp} {σ : St} {env : Env} {a : Addr} {d : D} (ok : EnvOk K B H σ (none :: env)) (h : env.all okS = true) (e : σ[0]? = some (some (.ref a))) (r : ∀ Av, Rep K Av H d (.ref a)) : EnvOk K B H σ (some (.val d) :: env) where
  len := ok.len
  rep := fun i s q => by
    cases i with
    | zero =>
      have q : some (Slot.val d) = some s := q
      cases q
      exact ⟨_, e, r _⟩
    | succ i =>
      obtain ⟨v, e1, q1⟩ := ok.rep (i + 1) s q
      refine ⟨v, e1, ?_⟩
      obtain ⟨d', rfl, _⟩ := getS_ok h (i := i) q
      exact Rep.less q1 fun b z => z.elim .inl fun o => (ok_noOwn h (.inr ⟨d, rfl⟩) o).elim
  uniq := fun i j ds es b q1 q2 q3 q4 => (ok_noOwn h (.inr ⟨d, rfl⟩) ⟨i, ds, q1, q3⟩).elim
  bd := ok.bd
  bo := fun b o => (ok_noOwn h (.inr ⟨d, rfl⟩) o).elim
theorem env_drop {K : Frag} {B B' : Addr → Prop} {H : Hp} {σ : St} {env : Env} {so : Option Slot} (ok : EnvOk K B' H σ (so :: env)) (h : env.all okS = true) (hB : ∀ b, B b → B' b) : EnvOk K B H σ (none :: env) where
  len := ok.len
  rep := fun i s q => by
    cases i with
    | zero => cases (show (none : Option Slot) = some s from q)
    | succ i =>
      obtain ⟨v, e1, q1⟩ := ok.rep (i + 1) s q
      refine ⟨v, e1, ?_⟩
      obtain ⟨d', rfl, _⟩ := getS_ok h (i := i) q
      exact Rep.less q1 fun b z => z.elim (fun z => .inl (hB b z)) fun o => (ok_noOwn h (.inl rfl) o).elim
  uniq := fun i j ds es b q1 q2 q3 q4 => (ok_noOwn h (.inl rfl) ⟨i, ds, q1, q3⟩).elim
  bd := fun b z => ok.bd b (hB b z)
  bo := fun b o => (ok_noOwn h (.inl rfl) o).elim
theorem env_ch {K : Frag} {B : Addr → Prop} {H H' : Hp} {σ : St} {env : Env} {a dx : Addr} (ok : EnvOk K B H σ (none :: env)) (h : env.all okS = true) (hk : ∀ b o, H b = some o → b ≠ a → b ≠ dx → H' b = some o) (oa : Odd H a) (od : Odd H dx)
    (hn : ∀ b, H b ≠ none → H' b ≠ none) : EnvOk K B H' σ (none :: env) where
  len := ok.len
  rep := fun i s q => by
    cases i with
    | zero => cases (show (none : Option Slot) = some s from q)
    | succ i =>
      obtain ⟨v, e1, q1⟩ := ok.rep (i + 1) s q
      refine ⟨v, e1, ?_⟩
      obtain ⟨d', rfl, n⟩ := getS_ok h (i := i) q
      exact rep_ch hk oa od d' v n q1
  uniq := ok.uniq
  bd := fun b z => hn b (ok.bd b z)
  bo := ok.bo
theorem putS_snoc {vs : List V} {y : V} {k : Nat} (h : vs.length = k) : SlX.putS k y (vs.map some) = (vs ++ [y]).map some := by
  subst h
  unfold SlX.putS
  simp [List.set_append]
/-- a constructor's body, its stages -/
inductive GC (X : Cx) (M : Mdl) (W : WX) (C : Ctx) (c x0 : Str) : Nat → List Stg → List Stmt → Prop
  | nil {k : Nat} : GC X M W C c x0 k [] []
  | set {k : Nat} {m : Ex} {r : List Stg} {rest : List Stmt} {v : Expr} {f : Str} {p1 p2 pos : Pos} {q : Addr} (hv : PE X v (EvR M W (fun i => i = 0) (m C))) (hs : swapsWith v (some (.Attribute (.Name x0 p1) f p2)) pos.line X.env = pure false)
      (sl : SlX.Slot1 X.K (He.ga X.K c) f q k) (t : GC X M W C c x0 (k + 1) r rest) : GC X M W C c x0 k (.set m :: r) (.Assign [.Attribute (.Name x0 p1) f p2] v pos :: rest)
  | act {k : Nat} {s : Sx} {r : List Stg} {rest : List Stmt} {st : Stmt} (h : PS X st (SvR M W (fun i => i = 0) (s C))) (t : GC X M W C c x0 k r rest) : GC X M W C c x0 k (.act s :: r) (st :: rest)
theorem gc_ok {X : Cx} {M : Mdl} {W : WX} {C : Ctx} {c x0 : Str} {a dx : Addr} {H0 : Hp} {B : Addr → Prop} (hK : X.K = M.K) (hN : X.N[0]? = some x0) (hv : Vis X.env.scope x0) (hd : (x0 == ("__debug__" : Str)) = false) (hcd : (x0 == ("__classdict__" : Str)) = false)
    (sc : SlX.SCls X.K (He.ga X.K c)) {k : Nat} {g : List Stg} {body : List Stmt} (h : GC X M W C c x0 k g body) : PSs X body (GnR M W c a dx H0 B (newG c C g) k) := by
  induction h with
  | nil =>
    refine pss_weak pss_nil fun Z σ H q => ?_
    obtain ⟨fs, env, hl, ok, he, e0, gi, ha, hdx, J, out⟩ := q
    exact out σ H _ rfl J fun Av => gi.snap
  | @act k s r rest st h t ih =>
    refine pss_weak (pss_cons h ih) fun Z σ H q => ?_
    obtain ⟨fs, env, hl, ok, he, e0, gi, ha, hdx, J, out⟩ := q
    refine ⟨B, _, env_snap ok he e0 (fun _ => gi.snap), ?_⟩
    have out : GOut M W B H0 a Z (match s C (some (.val (snap c fs)) :: env) with
      | .next (_ :: e1) => if e1.all okS then newG c C r fs e1 else .no
      | .exc x ds _ => .exc x ds []
      | _ => .no) := out
    have noo : ∀ b, ¬ Own σ (some (.val (snap c fs)) :: env) b := fun b o => ok_noOwn he (.inr ⟨_, rfl⟩) o
    cases e : s C (some (.val (snap c fs)) :: env) with
    | next e' =>
      rw [e] at out
      cases e' with
      | nil => exact out.elim
      | cons so e1 =>
        intro σ' H' ok' st'
        have out : GOut M W B H0 a Z (if e1.all okS = true then newG c C r fs e1 else .no) := out
        by_cases he1 : e1.all okS = true
        · rw [if_pos he1] at out
          have J' : ∀ b o, H b = some o → H' b = some o := fun b o q => st'.keep b o q (noo b)
          have nl : NoL H H' := fun b o _ q => J' b o q
          obtain ⟨vs, sl, rf⟩ := gi.ex
          refine ⟨fs, e1, hl, env_drop ok' he1 fun _ z => z, he1, (st'.fx 0 rfl).trans e0, ⟨gi.ne, ⟨vs, nl.slt sl, nl.repFs rf⟩, gi.od.imp (J' _ _) (J' _ _)⟩, ha, hdx, fun b o q => J' b o (J b o q), out⟩
        · rw [if_neg he1] at out
          exact out.elim
    | exc x ds e' =>
      rw [e] at out
      exact fun σ' H' dx' p => out σ' H' dx' _ (fun b o q => p.st.keep b o (J b o q) (noo b)) (fun b z => .inl z) p.x
    | ret _ _ => rw [e] at out; exact out.elim
    | brk _ => rw [e] at out; exact out.elim
    | cont _ => rw [e] at out; exact out.elim
    | no => rw [e] at out; exact out.elim
  | @set k m r rest v f p1 p2 pos q hv' hs sl t ih =>
    refine pss_weak (pss_cons (SlX.ps_sl (pe_var hN hv hd hcd) hv' hs) ih) fun Z σ H z => ?_
    obtain ⟨fs, env, hl, ok, he, e0, gi, ha, hdx, J, out⟩ := z
    have noo : ∀ b, ¬ Own σ (some (.val (snap c fs)) :: env) b := fun b o => ok_noOwn he (.inr ⟨_, rfl⟩) o
    have out : GOut M W B H0 a Z (match m C (some (.val (snap c fs)) :: env) with
      | .ok (.val d) (_ :: e1) => if fldB d && e1.all okS then newG c C r (fs ++ [d]) e1 else .no
      | .exc x ds _ => .exc x ds []
      | _ => .no) := out
    refine ⟨B, _, env_snap ok he e0 (fun _ => gi.snap), ?_⟩
    cases e : m C (some (.val (snap c fs)) :: env) with
    | ok s e' =>
      rw [e] at out
      cases s with
      | own _ => exact out.elim
      | rd _ => exact out.elim
      | val d =>
        cases e' with
        | nil => exact out.elim
        | cons so e1 =>
          have out : GOut M W B H0 a Z (if (fldB d && e1.all okS) = true then newG c C r (fs ++ [d]) e1 else .no) := out
          by_cases hc : (fldB d && e1.all okS) = true
          · rw [if_pos hc] at out
            rw [Bool.and_eq_true] at hc
            obtain ⟨hf, he1⟩ := hc
            intro H1 y p
            have J' : ∀ b o, H b = some o → H1 b = some o := fun b o q => p.st.keep b o q (noo b)
            have nl : NoL H H1 := fun b o _ q => J' b o q
            obtain ⟨vs, sl1, rf⟩ := gi.ex
            have g1 : GIn M.K c a dx fs H1 := ⟨gi.ne, ⟨vs, nl.slt sl1, nl.repFs rf⟩, gi.od.imp (J' _ _) (J' _ _)⟩
            have hlen : vs.length = k := (repFs_len rf).trans hl
            refine ⟨.ref a, e0, a, He.ga X.K c, dx, q, vs.map some, k, rfl, hK ▸ nl.slt sl1, sc, sl, ?_⟩
            have hk : ∀ b o, H1 b = some o → b ≠ a → b ≠ dx → SlX.slH H1 a (He.ga X.K c) dx (SlX.putS k y (vs.map some)) b = some o := fun b o q n1 n2 => by
              unfold SlX.slH
              rw [upd_ne n1, upd_ne n2]
              exact q
            have n1 : ∀ b o, H0 b = some o → b ≠ a := fun b o q z => by rw [z, ha] at q; cases q
            have n2 : ∀ b o, H0 b = some o → b ≠ dx := fun b o q z => by rw [z, hdx] at q; cases q
            refine ⟨fs ++ [d], e1, by simp [hl], env_ch (env_drop p.ok he1 fun _ z => .inl z) he1 hk g1.oa g1.odd (fun b z => ?_), he1, e0, ⟨gi.ne, ⟨vs ++ [y], ?_, repFs_snoc (repFs_ch hk g1.oa g1.odd (nl.repFs rf)) (repF_ch hk g1.oa g1.odd (fld_F hf p.rep))⟩, .inr ?_⟩, ha, hdx, fun b o q => hk b o (J' b o (J b o q)) (n1 b o q) (n2 b o q), out⟩
            · unfold SlX.slH upd
              split
              · intro z; cases z
              · split
                · intro z; cases z
                · exact z
            · rw [← putS_snoc hlen, ← hK]
              exact SlX.slH_slt gi.ne
            · unfold SlX.slH
              rw [upd_ne gi.ne, upd_same]
          · rw [if_neg hc] at out
            exact out.elim
    | exc x ds e' =>
      rw [e] at out
      exact fun H' dx' p => out σ H' dx' _ (fun b o q => p.st.keep b o (J b o q) (noo b)) (fun b z => .inl z) p.x
    | no => rw [e] at out; exact out.elim
end Ev
end
section
set_option linter.all false
set_option maxRecDepth 100000
set_option maxHeartbeats 2000000
/-! soundness 17: a constructor's promise -/
namespace Ev
open PySem L2
section
variable {M : Mdl} {c : Str} {g : List Stg} {loc n fi : Nat} {P : Prog} {rp : List Bool} {Q : VK} {E : XK} {N : List Str} {vs : List V} {H : Hp}
theorem no_fx (hp : rp.all (fun b => !b) = true) {i : Nat} : ¬ FxOf rp i := fun h => by
  have := List.all_eq_true.mp hp true (List.mem_of_getElem? h)
  cases this
theorem mask_own (hp : rp.all (fun b => !b) = true) {e : Env} {σ : St} {a : Addr} : ¬ Own σ (maskP rp e) a := fun ⟨i, ds, q, _⟩ => no_fx hp (mask_get q).1
theorem mask_ok (hp : rp.all (fun b => !b) = true) {K : Frag} {B : Addr → Prop} {H : Hp} {σ : St} {e : Env} (hl : rp.length = σ.length) (hb : ∀ a, B a → H a ≠ none) : EnvOk K B H σ (maskP rp e) :=
  ⟨by rw [mask_len]; exact hl, fun i s q => (no_fx hp (mask_get q).1).elim, fun i j ds es a q => (no_fx hp (mask_get q).1).elim, hb, fun a o => (mask_own hp o).elim⟩
theorem mask_st (hp : rp.all (fun b => !b) = true) {H0 H : Hp} {σ : St} {env e : Env} (J : ∀ b o, H0 b = some o → H b = some o) : Step Top σ env H0 σ (maskP rp e) H := ⟨fun a o q _ => J a o q, fun a o => (mask_own hp o).elim, fun _ h => h.elim⟩
theorem new_read (hd : P.defs[fi]? = some ⟨rp, 0, bNew c g loc⟩) (hp : rp.all (fun b => !b) = true) (hN : N.length = 1 + rp.length + loc) (h : spNew M ⟨call P (n + 1), P.fuel⟩ (He.ga M.K c) rp.length fi vs H Q E) :
    ∃ a dx H0 B, GnR M (fun cls dx _ H => E cls dx H) c a dx H0 B (newG c ⟨call P n, P.fuel⟩ g) 0 { nx := fun _ H' => Q .non H', rt := Q } (L2.start N vs) H := by
  obtain ⟨x, dx, rest, H0, rfl, hne, hx, hdx, rfl, lv, Bx, us, ok, r⟩ := h
  have hl : us.length = rest.length := by have := ok.len; simpa using this
  have r : CRun M Bx us rest H0 (fun v H2 => v = V.ref x → Q .non H2) E (callF ⟨call P n, P.fuel⟩ us P.defs[fi]?) := r
  rw [hd] at r
  have r : CRun M Bx us rest H0 (fun v H2 => v = V.ref x → Q .non H2) E (runD ⟨call P n, P.fuel⟩ ⟨rp, 0, bNew c g loc⟩ us) := r
  unfold runD at r
  rw [if_pos (by show us.length = rp.length; omega)] at r
  have r : CRun M Bx us rest H0 (fun v H2 => v = V.ref x → Q .non H2) E (F.done rp (bNew c g loc ⟨call P n, P.fuel⟩ (us.map some ++ List.replicate 0 none))) := r
  rw [List.replicate_zero, List.append_nil] at r
  unfold bNew at r
  by_cases he : (us.map some).all okS = true
  · rw [if_pos he] at r
    have J : ∀ b o, H0 b = some o → upd (upd H0 dx (.own x)) x (.ins (He.ga M.K c) dx []) b = some o := fun b o q => by
      rw [upd_ne (fun z => by rw [z, hx] at q; cases q), upd_ne (fun z => by rw [z, hdx] at q; cases q)]
      exact q
    have he2 : (us.map some ++ List.replicate loc none).all okS = true := by
      rw [List.all_append, he, Bool.true_and, List.all_eq_true]
      intro y hy
      rw [(List.mem_replicate.mp hy).2]
      rfl
    have sEq : L2.start N (V.ref x :: rest) = some (V.ref x) :: (rest.map some ++ List.replicate loc none) := by
      unfold L2.start
      rw [List.map_cons, List.length_cons, hN]
      rw [show 1 + rp.length + loc - (rest.length + 1) = loc by omega]
      rfl
    rw [sEq]
    have ok2 : EnvOk M.K Bx (upd (upd H0 dx (.own x)) x (.ins (He.ga M.K c) dx [])) (some (V.ref x) :: (rest.map some ++ List.replicate loc none)) (none :: (us.map some ++ List.replicate loc none)) := by
      refine ⟨by simp [hl], fun i s q => ?_, fun i j ds es b q1 q2 q3 q4 => (ok_noOwn he2 (.inl rfl) ⟨i, ds, q1, q3⟩).elim, fun b z => ?_, fun b o => (ok_noOwn he2 (.inl rfl) o).elim⟩
      · cases i with
        | zero => cases (show (none : Option Slot) = some s from q)
        | succ i =>
          have q : getS (us.map some ++ List.replicate loc none) i = some s := q
          obtain ⟨d', rfl, _⟩ := getS_ok he2 q
          by_cases hi : i < us.length
          · rw [env_get (d := ⟨rp, loc, fun _ _ => .no⟩) hi] at q
            obtain ⟨v, e1, r1⟩ := ok.rep i _ (by rw [getS_map]; exact q)
            refine ⟨v, ?_, Rep.ext J (Rep.less r1 fun b z => z.elim .inl fun o => (ok_noOwn he2 (.inl rfl) o).elim)⟩
            show (rest.map some ++ List.replicate loc none)[i]? = _
            rw [List.getElem?_append_left (by simp; omega)]
            exact e1
          · rw [env_out (d := ⟨rp, loc, fun _ _ => .no⟩) (by omega)] at q; cases q
      · have := ok.bd b z
        cases e : H0 b with
        | none => exact (this e).elim
        | some o => rw [J b o e]; exact fun z => by cases z
    refine ⟨x, dx, H0, Bx, [], _, rfl, ok2, he2, rfl, ⟨hne, ⟨[], .inl ⟨upd_same, rfl⟩, rfl⟩, .inl (by rw [upd_ne hne, upd_same])⟩, hx, hdx, J, ?_⟩
    have hlen : rp.length = (rest.map some).length := by simp; omega
    have nn : ∀ {H' : Hp}, (∀ b o, H0 b = some o → H' b = some o) → ∀ b, Bx b → H' b ≠ none := fun {H'} J' b z => by
      cases e : H0 b with
      | none => exact (ok.bd b z e).elim
      | some o => rw [J' b o e]; exact fun z => by cases z
    cases e : newG c ⟨call P n, P.fuel⟩ g [] (us.map some ++ List.replicate loc none) with
    | no => rw [e] at r; exact r
    | ret s ps =>
      rw [e] at r
      intro σ' H' d hs J' hr
      subst hs
      exact r H' (.ref x) ⟨mask_ok hp hlen fun b z => z.elim (nn J' b) fun t => (by obtain ⟨⟨ds, z⟩, _⟩ := t; cases z), mask_st hp J', hr _, fun a t => (by obtain ⟨⟨ds, z⟩, _⟩ := t; cases z), fun ds z => by cases z⟩ rfl
    | exc k ds ps =>
      rw [e] at r
      intro σ' H' dx' Av J' hB hxr
      exact r H' dx' ⟨mask_ok hp hlen (nn J'), mask_st hp J', M.xl _ _ _ _ _ _ (fun b z => z.elim (hB b) fun o => (mask_own hp o).elim) hxr⟩
  · rw [if_neg he] at r
    exact r.elim
end
end Ev
end
section
set_option linter.all false
set_option maxRecDepth 100000
set_option maxHeartbeats 4000000
/-! exceptions that a name holds behind the try: what is known of them, except .. as .., their fields, isinstance, the making -/
namespace L2
open PySem PySem.Spec PyProof.Rows

section
variable {X : Cx} {pins : List (Addr × Obj)} {σ : St} {H : Hp} {s : Shared} {a : Addr} {oe : Obj} {vs : Array Value} {cls : Value} {d : Option Addr}
/-- behind the suite the caught exception is known further on -/
theorem Inv.keepX (S : Inv (X.suite a ((a, oe) :: (X.pn ++ pins))) [] σ H s) (ok : X.Ok) (hz : Zc cls d oe) (hd : oe.data = .fields vs) (h0 : X.s_0.heap.get? a = none) (hp : ∀ p ∈ X.pn ++ pins, p.1 ≠ a) :
    Inv X pins σ (upd H a (xob a cls d)) s := by
  obtain ⟨ha, na, nL, nF, nc⟩ := S.pin (a, oe) (by rw [List.append_nil]; exact List.mem_cons_self)
  have ne0 : ∀ b o, X.s_0.heap.get? b = some o → b ≠ a := fun b o e z => by rw [z, h0] at e; cases e
  have neH : ∀ b o, H b = some o → b ≠ a := fun b o e z => by rw [z, show H a = none from na] at e; cases e
  refine ⟨ok, S.os, S.bare, ⟨S.base.keep, S.base.slot, fun b o e n hx => ?_, S.base.there, fun b xs e => ?_, fun b o u e => ?_, fun b ps e => ?_⟩, S.loc, S.cell, ?_, fun x c e => ?_, fun p hpp => ?_, fun b o e => ?_, S.len⟩
  · rw [upd_ne (ne0 b o e)]; exact S.base.free b o e n hx
  · have z := S.base.tups b xs e
    rw [upd_ne (neH _ _ z)]; exact z
  · have z := S.base.frzs b o u e
    rw [upd_ne (neH _ _ z)]; exact z
  · obtain ⟨m, z⟩ := S.base.tbls b ps e
    exact ⟨m, by rw [upd_ne (neH _ _ z)]; exact z⟩
  · rw [upd_ne (fun z => nL z.symm)]; exact S.free
  · rw [upd_ne (fun z => ?_)]
    · exact S.freeC x c e
    · obtain ⟨v, o, e1, e2⟩ := S.cell x c e
      rw [z] at e1
      rw [show s.heap.get? a = some oe from ha] at e1
      cases e1
      rw [hd] at e2; cases e2
  · obtain ⟨e, n, ne, nf, dd⟩ := S.pin p (by rw [List.append_nil]; exact List.mem_cons_of_mem _ hpp)
    exact ⟨e, by rw [upd_ne (hp p hpp)]; exact n, ne, nf, dd⟩
  · by_cases hb : b = a
    · subst hb
      rw [upd_same] at e; cases e
      exact xob_ok ha hz hd
    · rw [upd_ne hb] at e
      exact (S.hok b o e).stay (fun c u hc q => q) (fun c q => by rw [upd_ne (neH _ _ q)]; exact q) fun c xs q => by rw [upd_ne (neH _ _ q)]; exact q
end

/-- what an except clause's test tells of a caught exception's class -/
def ClauseOk (X : Cx) (t : Expr) (m : Value → Option Bool) : Prop := ∀ (a : Addr) (oe : Obj) (pn : List (Addr × Obj)) (σ : St) (H : Hp) (s : Shared) (cls : Value) (b : Bool) (Q : Bool → Shared → Prop) (E : Value → Shared → Prop),
  Inv (X.suite a ((a, oe) :: pn)) [] σ H s → oe.cls = cls → m cls = some b → (∀ h', (∀ q o, s.heap.get? q = some o → h'.get? q = some o) → Q b { s with heap := h' }) →
  wpAny (model X.prog X.w) (X.A.mark (some (.ref a))) (eval t X.env) (fun c s₁ => wpAny (model X.prog X.w) (X.A.mark (some (.ref a))) (excMatches (.ref a) c) Q E s₁) E s
section
variable {X : Cx}
theorem names_at {X : Cx} {x : Str} {c : Value} {np : Pos} (hc : Names X x c) {a : Addr} {oe : Obj} {pn : List (Addr × Obj)} {σ : St} {H : Hp} {s : Shared} (S : Inv (X.suite a ((a, oe) :: pn)) [] σ H s) {Q : Value → Shared → Prop} {E : Value → Shared → Prop} (q : Q c s) :
    wpAny (model X.prog X.w) (X.A.mark (some (.ref a))) (eval (.Name x np) X.env) Q E s := by
  obtain ⟨hg, hdbg, hm | ⟨hm, hv, hnn⟩⟩ := hc
  · exact ld_glob (X := X.suite a ((a, oe) :: pn)) S hg hm q hdbg
  · exact ld_blt (X := X.suite a ((a, oe) :: pn)) S hg hm hv q hnn hdbg
theorem looks_cls {X : Cx} {a : Addr} {oe : Obj} {pn : List (Addr × Obj)} {σ : St} {H : Hp} {s : Shared} {cls : Value} (S : Inv (X.suite a ((a, oe) :: pn)) [] σ H s) (e : oe.cls = cls) : PySem.W.Looks (model X.prog X.w) s.heap (typeOf (.ref a)) cls := fun A Q E s1 k q => by
  obtain ⟨ha, _⟩ := S.pin (a, oe) (by rw [List.append_nil]; exact List.mem_cons_self)
  exact wpAny_typeOf_ref (k _ _ ha) (by rw [e]; exact q)
theorem clause_name {x : Str} {c : Value} {np : Pos} (hc : Names X x c) : ClauseOk X (.Name x np) fun cls => PySem.W.exmOne X.K cls c := fun a oe pn σ H s cls b Q E S e h q =>
  names_at hc S ((PySem.W.exm_one S.kIn (looks_cls S e) h).here (q s.heap fun _ _ z => z))
theorem clause_tup2 {x1 x2 : Str} {c1 c2 : Value} {p1 p2 tpos : Pos} {kk : Nat} (h1 : Names X x1 c1) (h2 : Names X x2 c2) : ClauseOk X (.Tuple [.Name x1 p1, .Name x2 p2] kk tpos) fun cls => PySem.W.exmAny X.K cls [c1, c2] := fun a oe pn σ H s cls b Q E S e h q => by
  refine wpAny_Tuple ?_
  refine wpAny_items_cons (names_at h1 S ?_)
  refine wpAny_items_cons (names_at h2 S ?_)
  refine wpAny_items_nil ⟨by size_fits, ?_⟩
  have kp : ∀ q o, s.heap.get? q = some o → (s.heap.push { cls := .type "tuple", data := .seq [c1, c2].toArray }).get? q = some o := fun _ _ z => Heap.get?_push_of_some _ z
  exact (PySem.W.exm_tup2 (S.kIn.keeps kp) ((looks_cls S e).keeps kp) (Heap.get?_push_size s.heap rfl) h).here (q _ kp)
theorem clause_tup3 {x1 x2 x3 : Str} {c1 c2 c3 : Value} {p1 p2 p3 tpos : Pos} {kk : Nat} (h1 : Names X x1 c1) (h2 : Names X x2 c2) (h3 : Names X x3 c3) : ClauseOk X (.Tuple [.Name x1 p1, .Name x2 p2, .Name x3 p3] kk tpos) fun cls => PySem.W.exmAny X.K cls [c1, c2, c3] := fun a oe pn σ H s cls b Q E S e h q => by
  refine wpAny_Tuple ?_
  refine wpAny_items_cons (names_at h1 S ?_)
  refine wpAny_items_cons (names_at h2 S ?_)
  refine wpAny_items_cons (names_at h3 S ?_)
  refine wpAny_items_nil ⟨by size_fits, ?_⟩
  have kp : ∀ q o, s.heap.get? q = some o → (s.heap.push { cls := .type "tuple", data := .seq [c1, c2, c3].toArray }).get? q = some o := fun _ _ z => Heap.get?_push_of_some _ z
  exact (PySem.W.exm_tup3 (S.kIn.keeps kp) ((looks_cls S e).keeps kp) (Heap.get?_push_size s.heap rfl) h).here (q _ kp)
end
theorem FlyingZ.more {B : Heap} {l : List Env} {a : Addr} {Z : Obj → Prop} {h h' : Heap} (R : HandSPX.FlyingZ B l a Z h) (k : ∀ b o, h.get? b = some o → h'.get? b = some o) : HandSPX.FlyingZ B l a Z h' := by
  obtain ⟨f1, f2, f3, oe, vs, T, oT, ts, he, hz, hd, h1, hn, hne, hT, hdT, h3⟩ := R
  exact ⟨fun b o q => k b o (f1 b o q), f2, f3.of_keeps fun b o q _ => ⟨o, k b o q, rfl⟩, oe, vs, T, oT, ts, k _ _ he, hz, hd, h1, hn, hne, k _ _ hT, hdT, h3⟩

/-- what the clause 'except t as n: suite' wishes of an exception of the body, which is known behind it -/
def wKeep (m : Value → Option Bool) (i : Nat) (ts : Addr → Value → Option Addr → TS) (Wout : WX) (D : Ends) : WX := fun cls d σ H =>
  ∃ b, m cls = some b ∧ (b = true → ∀ a, H a = none → ts a cls d { nx := fun σ' H' => H' a = none → D.nx (σ'.set i none) (upd H' a (xob a cls d)), rt := fun _ _ => False, bk := fun _ _ => False, ct := fun _ _ => False } (σ.set i (some (.ref a))) H) ∧
    (b = false → Wout cls d σ H)
section
variable {X : Cx} {t : Expr} {n : Str} {m : Value → Option Bool} {i : Nat} {body suite : List Stmt} {b₀ : Stmt} {np pos pos' : Pos} {tb : WX → TS} {ts : Addr → Value → Option Addr → TS} {Wout : WX}
theorem ps_try_keep (hs : X.stack = X.env :: X.outer) (hf : X.env.frame = some X.env.locals) (hex : X.ex = []) (hN : X.N.Nodup) (hi : X.N[i]? = some n) (hln : X.env.kindOf n = some .local) (hc : ClauseOk X t m) (tk : Takes X Wout)
    (hb : ∀ (W : WX) (pn : List (Addr × Obj)) (xe : Value → Shared → Prop), Takes (X.tr pn xe) W → PassesOwn (model X.prog X.w) X.A X.env xe → PSs (X.tr pn xe) body (tb W))
    (hsu : ∀ (a : Addr) (oe : Obj) (cls : Value) (d : Option Addr) (pn : List (Addr × Obj)), Zc cls d oe → (∃ vs, oe.data = .fields vs) → PSs (X.suite a ((a, oe) :: pn)) (b₀ :: suite) (ts a cls d)) :
    PS X (.Try body [.ExceptHandler (some t) (some n) (b₀ :: suite) pos'] [] [] pos) (fun D σ H => tb (wKeep m i ts Wout D) D σ H) := by
  refine ⟨fun pins s σ H D I h => ?_⟩
  have ok := I.ok
  have hfr : X.A.frames = some (X.env :: X.outer) := by rw [ok.frames, hs]
  have hloc : Loc X.env.scope n := .inl hln
  refine wpAny_Try_except ?_
  refine wpAny_mono ((hb (wKeep m i ts Wout D) (X.pn ++ pins) (fun e s₁ => wpAny (model X.prog X.w) X.A (noteFrame e X.env) (fun _ s₂ => wpAny (model X.prog X.w) X.A (setFlight e none) (fun _ s₃ =>
    wpAny (model X.prog X.w) X.A (handleBy e X.env [.ExceptHandler (some t) (some n) (b₀ :: suite) pos']) (SP X pins D) X.xe s₃) X.xe s₂) X.xe s₁) (fun u s' xx => ?_) PassesOwn.looking).run [] s σ H D (I.toTry _) h) (fun f s1 hsp => ?_) (fun e s1 he => he)
  · -- the catch
    obtain ⟨a, B, sI, pins', σ', H', cls, d, rfl, J', nb, up, sky, na, os, ag, b, hb1, hyes, hno⟩ := xx
    have J : Inv X pins σ' H' sI := J'.ofTry ok
    have sky' : Sky B (X.env :: X.outer) a (Zc cls d) X.env.locals s'.heap := by rw [← hs]; exact sky
    show wpAny (model X.prog X.w) X.A (noteFrame (.ref a) X.env) _ _ _
    refine Sky.land Zc.steady hfr hf sky' fun h3 fl3 up3 => ?_
    have J3 : Inv X pins σ' H' { s' with heap := h3 } := J.landed nb fl3.1 (up.trans up3) os ag
    obtain ⟨oe3, vs3, he3, hz3, hd3⟩ := fl3.there
    have notFr : ∀ {h : Heap} {o : Obj} {vs : Array Value}, h.FunFrames B (X.env :: X.outer) → h.get? a = some o → o.data = .fields vs → a ∉ frs (X.env :: X.outer) := fun {h o vs} ff e dd hm => by
      obtain ⟨_, o', e', hnf⟩ := ff.mem hm
      rw [e] at e'; cases e'
      exact hnf _ dd
    have nfr := notFr fl3.2.2.1 he3 hd3
    have nL : a ≠ X.env.locals := fun z => nfr (List.mem_filterMap.mpr ⟨X.env, List.mem_cons_self, by rw [hf, z]⟩)
    have nF : a ∉ X.fs := fun hm => by
      obtain ⟨e, he, q⟩ := List.mem_filterMap.mp hm
      exact nfr (List.mem_filterMap.mpr ⟨e, List.mem_cons_of_mem _ he, q⟩)
    have S3 := J3.suite he3 hd3 na nL nF
    -- the exception is none of the old things
    have hBa : B.get? a = none := fl3.2.1
    have inB : ∀ o, sI.heap.get? a = some o → False := fun o e => by
      have := nb a o e (by rw [hs]; exact nfr)
      rw [hBa] at this; cases this
    have h0 : X.s_0.heap.get? a = none := by
      cases e : X.s_0.heap.get? a with
      | none => rfl
      | some o =>
        exfalso
        obtain ⟨o', e'⟩ := J.base.there a o e (by rw [hex]; exact fun q => nomatch q)
        exact inB o' e'
    have hpp : ∀ p ∈ X.pn ++ pins, p.1 ≠ a := fun p hp z => by
      obtain ⟨e, _⟩ := J.pin p hp
      rw [z] at e
      exact inB _ e
    refine wpAny_handleBy_cons (codeAny_handlers_test ?_) (by intro q; cases q)
    refine hc a oe3 (X.pn ++ pins) σ' H' { s' with heap := h3 } cls b _ _ S3 hz3.1 hb1 fun h5 k5 => ?_
    have fl5 : HandSPX.FlyingZ B (X.env :: X.outer) a (Zc cls d) h5 := FlyingZ.more fl3 k5
    cases b with
    | true =>
      refine codeAny_handlers_suite_as ?_
      refine HandSPX.lands_againZ fl5 fun h4 fl4 up4 => ?_
      have J4 : Inv X pins σ' H' { s' with heap := h4 } := J.landed nb fl4.1 (((up.trans up3).trans (Heap.UpToSlots.of_keeps k5)).trans up4) os ag
      obtain ⟨oe4, vs4, he4, hz4, hd4⟩ := fl4.there
      have S4 := J4.suite he4 hd4 na nL nF
      refine store_ok (X := X.suite a ((a, oe4) :: (X.pn ++ pins))) (v := .ref a) S4 hN hi hloc rfl (fun s5 S5 => ?_) (.inr hln)
      refine wpAny_mono ((hsu a oe4 cls d (X.pn ++ pins) hz4 ⟨_, hd4⟩).run [] s5 _ H' _ S5 (hyes rfl a na)) (fun f s6 hsp => ?_) (fun _ _ z => False.elim z)
      cases f with
      | next =>
        obtain ⟨σ6, H6, S6, q6⟩ := hsp
        have nH6 : H6 a = none := (S6.pin (a, oe4) (by rw [List.append_nil]; exact List.mem_cons_self)).2.1
        exact gone_ok (S6.keepX ok hz4 hd4 h0 hpp) hN hi hln fun s7 J7 => ⟨_, _, J7, q6 nH6⟩
      | brk =>
        obtain ⟨σ6, H6, S6, q6⟩ := hsp
        exact q6.elim
      | cont =>
        obtain ⟨σ6, H6, S6, q6⟩ := hsp
        exact q6.elim
      | ret u =>
        obtain ⟨v6, σ6, H6, S6, r6, q6⟩ := hsp
        exact q6.elim
    | false =>
      show wpAny _ X.A (handleBy (.ref a) X.env []) _ _ _
      refine wpAny_handleBy_nil ?_
      obtain ⟨k1, k2, k3, oe, vs, T, oT, ts', he, hz, hd, h1, hr⟩ := id fl5
      unfold PySem.passOn
      refine wpAny_bind (wpAny_field he hd h1 ?_)
      rw [if_neg (show ¬ ((Value.ref T == Value.none) = true) from by simp)]
      have fin : wpAny (model X.prog X.w) X.A (setFlight (.ref a) X.env.frame) (fun _ s4 => wpAny (model X.prog X.w) X.A (throw (.ref a) : Sem Flow) (SP X pins D) X.xe s4) X.xe { s' with heap := h5 } := by
        rw [hf]
        refine HandSPX.setFlight_upZ fl5 fun h4 hh4 up4 => wpAny_throw (tk _ _ ?_)
        exact ⟨a, B, sI, pins, σ', H', cls, d, rfl, J, nb, ((up.trans up3).trans (Heap.UpToSlots.of_keeps k5)).trans up4, .inr (.inr (by rw [hs]; exact hh4)), na, os, ag, hno rfl⟩
      first
        | exact wpAny_bind (wpAny_pure (wpAny_bind fin))
        | exact wpAny_bind fin
  · cases f with
    | next =>
      obtain ⟨σ', H', J', q⟩ := hsp
      exact wpAny_execs_nil ⟨σ', H', J'.ofTry ok, q⟩
    | brk =>
      obtain ⟨σ', H', J', q⟩ := hsp
      exact ⟨σ', H', J'.ofTry ok, q⟩
    | cont =>
      obtain ⟨σ', H', J', q⟩ := hsp
      exact ⟨σ', H', J'.ofTry ok, q⟩
    | ret u =>
      obtain ⟨v, σ', H', J', r, q⟩ := hsp
      exact ⟨v, σ', H', J'.ofTry ok, r, q⟩
end

/-! ### fields, isinstance of such -/
/-- e.f, e an exception that a name holds -/
def tXfo (K : PySem.W.Frag) (f : Str) (te : TE) : TE := fun σ H Q => te σ H fun x H1 => ∃ (a C dd : Addr) (fs : List (Str × V)) (v : V), x = .ref a ∧ H1 a = some (xob a (.ref C) (some dd)) ∧ XfC K C ∧ PySem.W.findIn K (.ref C) f = some none ∧ H1 dd = some (.xd fs) ∧ fs.lookup f = some v ∧ Q v H1
theorem pe_xfo {X : Cx} {e : Expr} {te : TE} {pos : Pos} {n : Str} (he : PE X e te) (hb : attributeBase e n X.env (eval e X.env) = eval e X.env := by rfl) : PE X (.Attribute e n pos) (tXfo X.K n te) := by
  refine ⟨fun pins s σ H Q I h => ?_⟩
  refine attr_of hb (thn (he.run pins s σ H _ I h) fun u s1 hh => ?_)
  obtain ⟨x, H1, I1, rx, a, C, dd, fs, v, ex, eo, T, hno, ea, l, q⟩ := hh
  subst ex
  obtain rfl : u = Value.ref a := rx
  obtain ⟨oe, vs, ha, hz, hd⟩ := xob_at I1.hok eo
  have hx : ObjOk X.prog X.w H1 s1.heap dd (.xd fs) := I1.hok dd _ ea
  obtain ⟨mA, hns, hr⟩ := hx
  obtain ⟨od, ho, hl⟩ := lookIn_ns hns
  obtain ⟨u, hu, ru⟩ := RelO.some_of (v := v) (o := mA n) (by rw [← l]; exact hr n)
  have J : PySem.W.InstAt s1.heap a oe C (some od) := ⟨ha, hz.1, by unfold PySem.W.notCls; rw [hd] <;> rfl, by rw [hz.2]; exact ho⟩
  exact HandSPX.exc_get I1.kIn J T.ga T.gg T.exC (PySem.W.findObj_own T.hdC hno rfl (by rw [hl, hu])) (handed_of ru) ⟨v, H1, I1.tok _, ru, q⟩
/-- what the class D must say for isinstance -/
structure ExcD (K : PySem.W.Frag) (D : Addr) : Prop where
  cl : (PySem.W.clsIn K D).isSome = true
  hg : PySem.W.findIn K (.ref D) "__getattribute__" = some (some (.builtin "BaseException.__getattribute__"))
  hk : PySem.W.findIn K (.ref D) "__getattr__" = some none
  hs : PySem.W.subIn K (.ref D) (.type "BaseException") = some true
  ha : PySem.W.findIn K (.ref D) "__class__" = some (some (.builtin "object.__class__"))
  hn : PySem.W.specialIn K (.builtin "object.__class__") "__get__" = some (some (.builtin "getset_descriptor.__get__"))
  ht : PySem.W.takesIn K (.builtin "object.__class__") = some true
  hm : PySem.W.mroIn K D (.type "object") = some true
/-- isinstance(e, c), e an exception that a name holds -/
def rIsX (K : PySem.W.Frag) : List V → Hp → VK → Prop := fun xs H Q => ∃ (a D dd : Addr) (fs : List (Str × V)) (c : V) (cv : Value) (b : Bool), xs = [.ref a, c] ∧ (∀ u, RelV c u → u = cv) ∧ H a = some (xob a (.ref D) (some dd)) ∧ H dd = some (.xd fs) ∧ ExcD K D ∧
  PySem.W.kitOne K (.ref D) cv = some b ∧ Q (.bl b) H
theorem call_isX {X : Cx} : CallR X (.builtin "isinstance") (rIsX X.K) := by
  intro pins s σ H xs us Q I r h
  obtain ⟨a, D, dd, fs, c, cv, b, rfl, hcv, eo, ed, C, e, q⟩ := h
  cases r with
  | cons rx rr =>
    cases rr with
    | cons rt rr =>
      cases rr
      cases rx
      have ec := hcv _ rt
      subst ec
      obtain ⟨oe, vs, hget, hz, hv⟩ := xob_at I.hok eo
      have hx : ObjOk X.prog X.w H s.heap dd (.xd fs) := I.hok dd _ ed
      obtain ⟨mA, hns, hr⟩ := hx
      obtain ⟨od, ho, hl⟩ := lookIn_ns hns
      have J : PySem.W.InstAt s.heap a oe D (some od) := ⟨hget, hz.1, by unfold PySem.W.notCls; rw [hv] <;> rfl, by rw [hz.2]; exact ho⟩
      exact PySem.W.kia_one (PySem.W.kitx_exc C.cl C.hg C.hk C.hs C.ha C.hn C.ht C.hm) I.kIn J e (fun z => nomatch z) fun tk => ⟨.bl b, H, I.kept (t' := tk) fun _ _ z => z, rfl, q⟩

/-! ### an exception is made without arguments -/
section
variable {X : Cx} {p pos : Pos}
theorem pmk_oex0 {CX : CXT} {x : Str} {C fI : Addr} {k : Nat} {fd : FuncData} {ps : List Str} {sp : Sp} {ds : List Value} {dvs : List V} (T : OexC X.K C) (iC : PySem.W.findIn X.K (.ref C) "__init__" = some (some (.ref fI))) (tI : PySem.W.typeIn X.K (.ref fI) = some (.type "function"))
    (F1 : FnOk X.prog X.w X.K X.mg X.base CX k fI fd ps sp) (hr : Room (k + 1) X.A) (hb : Binds X.K fd ps ds) (hd : Vals dvs ds) (hx : Passes CX X (fun _ _ _ => False)) (hg : Gl X x) (hm : X.mg x = some (.ref C))
    (hdb : (x == ("__debug__" : Str)) = false := by decide) :
    PMk X (.Call (.Name x p) [] [] pos) (tMkO C sp dvs tNil) := by
  intro pins s σ H Q I h
  obtain ⟨nm, q, N, bs, bm, sn, sub, ab, col, dd, k0, k1, k2, k3, k5, hC, hbm⟩ := T.cls
  refine wpAny_Call_Name_kw (ld_glob I hg hm ?_ hdb)
  refine PySem.W.callWith_K0 I.kIn T.kC ?_
  show wpAny _ _ (call (.ref C) []) _ _ _
  obtain ⟨hz, q1⟩ := h
  obtain ⟨hp, g, dr, tk, os⟩ := s
  have hsz : hp.objs.size ≤ hp.objs.size + 1 := Nat.le_succ _
  have hn : H (hp.objs.size + 1) = none := I.hok.fresh hsz
  have hq := q1 (hp.objs.size + 1) hn
  have kk : ∀ b o, hp.get? b = some o → ((hp.push (PySem.W.kdv_tup [])).push (PySem.HandSPX.excO C hp.objs.size)).get? b = some o := fun b o e => Heap.get?_push_of_some _ (Heap.get?_push_of_some _ e)
  have hget : ((hp.push (PySem.W.kdv_tup [])).push (PySem.HandSPX.excO C hp.objs.size)).get? (hp.objs.size + 1) = some (PySem.HandSPX.excO C hp.objs.size) := by heap_get
  have I2 : Inv X pins σ (upd H (hp.objs.size + 1) (exo (hp.objs.size + 1) C none)) ⟨(hp.push (PySem.W.kdv_tup [])).push (PySem.HandSPX.excO C hp.objs.size), g, dr, tk, os⟩ :=
    I.laid (t' := tk) (a := hp.objs.size + 1) (o := exo (hp.objs.size + 1) C none) (h' := (hp.push (PySem.W.kdv_tup [])).push (PySem.HandSPX.excO C hp.objs.size)) kk hsz (exo_ok hget)
  have r2 : Vals (V.ref (hp.objs.size + 1) :: ([] ++ dvs)) ([Value.ref (hp.objs.size + 1)] ++ ds) := .cons rfl hd
  have hl : (Value.ref (hp.objs.size + 1) :: [] ++ ds).length = ps.length := by
    have e := r2.length
    rw [F1.len _ _ _ _ hq] at e
    exact e.symm
  refine wpAny_call (PySem.HandSPX.call_own F.excBase_ValueError (fun Y => PySem.HandSPX.refsVE_contains Y bm hbm) (I.kIn _ _ hC) (PySem.W.looks_findIn I.kIn iC) (fun self => PySem.W.bind_fn I.kIn self tI) (by rw [sizeLine_eq]; exact Nat.zero_le _)
    (codeAny_mono (F1.run _ X.stack _ _ ⟨Value.ref (hp.objs.size + 1) :: [], []⟩ ([Value.ref (hp.objs.size + 1)] ++ ds) _ _ (fun _ _ _ => False) (hr.make C [] []) (I2.env0.make C [] []) (hb _ (Value.ref (hp.objs.size + 1) :: []) I2.kIn hl) r2 hq) fun r s' hq' => ?_))
  cases r with
  | error er => exact hx pins σ _ _ er s' I2 hq'
  | ok fl =>
    cases fl with
    | ret u =>
      obtain ⟨v, H2, os2, bare2, un2, hok2, rv, ev, d, fs, ea, ed, hd1, q2⟩ := hq'
      subst ev
      obtain ⟨h2, g2, d2, t2, os'⟩ := s'
      exact ⟨rv, mk_end (raises_own T.exC T.tyC) I hsz kk un2 hok2 os2 bare2 ea ed hd1 q2⟩
    | next => exact False.elim hq'
    | brk => exact False.elim hq'
    | cont => exact False.elim hq'
end
/-! ### an error's own __init__ -/
/-- its promise: the field f is the argument, or () -/
def spExi (K : PySem.W.Frag) (C : Addr) (f : Str) (ar : Bool) : Sp := fun vs H Q _ => ∃ (a : Addr) (H0 : Hp), H = upd H0 a (exo a C none) ∧ H0 a = none ∧ OexC K C ∧ PySem.W.findIn K (.ref C) f = some none ∧
  ((ar = true ∧ ∃ v, vs = [.ref a, v] ∧ ∀ dx, H dx = none → dx ≠ a → Q .non (upd (upd H dx (exd dx [(f, v)])) a (exo a C (some dx)))) ∨
    (ar = false ∧ vs = [.ref a] ∧ ∀ t, H t = none → ∀ dx, upd H t (.tup []) dx = none → dx ≠ a → Q .non (upd (upd (upd H t (.tup [])) dx (exd dx [(f, .ref t)])) a (exo a C (some dx)))))
theorem exi1_ok {Pr : Program} {w : World} {K : PySem.W.Frag} {mg : Str → Option Value} {base : Heap} {CX : CXT} {x q : Str} {params : Arguments} {scope : Scope} {fI : Addr} {fd : FuncData} {s p f : Str} {C : Addr} {p1 p2 p3 p4 : Pos}
    (F0 : FunD K x q params [.Assign [.Attribute (.Name s p1) f p2] (.Name p p3) p4] scope [] [] fI fd) (S : FnScope [s, p] [s, p] scope) (hs : Vis scope s) (hp : Vis scope p) (ds : (s == ("__debug__" : Str)) = false) (dp : (p == ("__debug__" : Str)) = false)
    (cs : (s == ("__classdict__" : Str)) = false) (cp : (p == ("__classdict__" : Str)) = false) : FnOk Pr w K mg base CX 1 fI fd [s, p] (spExi K C f true) :=
  F0.ok S (fun vs H Q E h => by
    obtain ⟨a, H0, _, _, _, _, ⟨_, v, rfl, _⟩ | ⟨z, _⟩⟩ := h
    · rfl
    · cases z) fun cdv A outer st H vs Q E hr h => by
    refine ⟨_, pss_one (ps_ost (pe_var (i := 0) rfl hs ds cs) (pe_var (i := 1) rfl hp dp cp) rfl), ?_⟩
    obtain ⟨a, H0, rfl, h0, T, hf, ⟨_, v, rfl, q⟩ | ⟨z, _⟩⟩ := h
    · exact ⟨v, rfl, .ref a, rfl, a, C, rfl, T, hf, .inl ⟨upd_same, fun dx n ne => q dx n ne⟩⟩
    · cases z
theorem exi0_ok {Pr : Program} {w : World} {K : PySem.W.Frag} {mg : Str → Option Value} {base : Heap} {CX : CXT} {x q : Str} {params : Arguments} {scope : Scope} {fI : Addr} {fd : FuncData} {s f : Str} {C : Addr} {p1 p2 p3 p4 : Pos} {k : Nat}
    (F0 : FunD K x q params [.Assign [.Attribute (.Name s p1) f p2] (.Tuple [] k p3) p4] scope [] [] fI fd) (S : FnScope [s] [s] scope) (hs : Vis scope s) (ds : (s == ("__debug__" : Str)) = false)
    (cs : (s == ("__classdict__" : Str)) = false) : FnOk Pr w K mg base CX 1 fI fd [s] (spExi K C f false) :=
  F0.ok S (fun vs H Q E h => by
    obtain ⟨a, H0, _, _, _, _, ⟨z, _⟩ | ⟨_, rfl, _⟩⟩ := h
    · cases z
    · rfl) fun cdv A outer st H vs Q E hr h => by
    refine ⟨_, pss_one (ps_ost (pe_var (i := 0) rfl hs ds cs) (pe_tup pa_nil) rfl), ?_⟩
    obtain ⟨a, H0, rfl, h0, T, hf, ⟨z, _⟩ | ⟨_, rfl, q⟩⟩ := h
    · cases z
    · refine ⟨Nat.zero_le _, fun t ht => ⟨.ref a, rfl, a, C, rfl, T, hf, .inl ⟨?_, fun dx n ne => q t ht dx n ne⟩⟩⟩
      rw [upd_ne (fun z => by rw [← z, upd_same] at ht; cases ht)]
      exact upd_same
end L2
end
section
set_option linter.all false
set_option maxRecDepth 100000
set_option maxHeartbeats 2000000
/-! soundness x2: exceptions: raised, caught and kept, looked at -/
namespace Ev
open PySem L2
theorem cx_noX {P : Program} {w : World} {o : List PySem.Env} {H : Hp} {s s' : Shared} {e : Value} (h : CX P w o H s (fun _ _ _ => False) e s') : False := by
  obtain ⟨_, _, _, _, _, _, _, _, _, _, _, _, z⟩ := h
  exact z
/-- the classes of errors: the c-th one's name, its fields -/
def mkM (K : Frag) (xs : ExT) : Mdl where
  K := K
  cls := fun c => match xs[c]? with
    | some p => .ref (He.ga K p.1)
    | none => .none
  xr := fun c ds _ H dx => ∃ p, xs[c]? = some p ∧ ∃ (dd : Addr) (fs : List (Str × V)), dx = some dd ∧ H dd = some (.xd fs) ∧ ∀ f d, xfL f (zipX p.2 ds) = some d → ∃ w, fs.lookup f = some w ∧ atomV d = some w
  xl := fun _ _ _ _ _ _ _ h => h
theorem cls_at {K : Frag} {xs : ExT} {c : Nat} {p : Str × List Str} (h : xs[c]? = some p) : (mkM K xs).cls c = .ref (He.ga K p.1) := by
  show (match xs[c]? with
    | some p => Value.ref (He.ga K p.1)
    | none => .none) = _
  rw [h]
section
variable {M : Mdl} {W : WX} {Fx : Nat → Prop} {X : Cx} {C : Ctx} {pos : Pos} {σ : St} {H : Hp} {env : Env} {B : Addr → Prop} {xs : ExT}
/-- a name goes -/
theorem env_gone {K : Frag} {i : Nat} {x : Option V} (ok : EnvOk K B H σ env) (hf : ¬ Fx i) : EnvOk K B H (σ.set i x) (env.set i none) ∧ Step Fx σ env H (σ.set i x) (env.set i none) H := by
  have gs : ∀ j s, getS (env.set i none) j = some s → j ≠ i ∧ getS env j = some s := fun j s h => by
    rw [getS_set] at h
    by_cases hj : i = j ∧ i < env.length
    · rw [if_pos hj] at h; cases h
    · rw [if_neg hj] at h
      refine ⟨fun z => ?_, h⟩
      subst z
      have : j < env.length := getS_lt h
      exact hj ⟨rfl, this⟩
  have sg : ∀ j, j ≠ i → (σ.set i x)[j]? = σ[j]? := fun j n => List.getElem?_set_ne (fun z => n z.symm)
  have ow : ∀ a, Own (σ.set i x) (env.set i none) a → Own σ env a := fun a ⟨j, ds, h1, h2⟩ => by
    obtain ⟨n, h⟩ := gs j _ h1
    exact ⟨j, ds, h, by rw [← sg j n]; exact h2⟩
  have av : ∀ a, Avd B (σ.set i x) (env.set i none) a → Avd B σ env a := fun a q => q.imp id (ow a)
  refine ⟨⟨by rw [List.length_set, List.length_set]; exact ok.len, fun j s h => ?_, fun j k ds es a h1 h2 h3 h4 => ?_, ok.bd, fun a o => ok.bo a (ow a o)⟩, ⟨fun _ _ h _ => h, fun a o => .inl (ow a o), fun j h => sg j fun z => hf (z ▸ h)⟩⟩
  · obtain ⟨n, h⟩ := gs j s h
    obtain ⟨v, e1, r⟩ := ok.rep j s h
    exact ⟨v, by rw [sg j n]; exact e1, r.less av⟩
  · obtain ⟨n1, g1⟩ := gs j _ h1
    obtain ⟨n2, g2⟩ := gs k _ h2
    rw [sg j n1] at h3
    rw [sg k n2] at h4
    exact ok.uniq j k _ _ a g1 g2 h3 h4
theorem flat_atom1 {K : Frag} {Av : Addr → Prop} {d : D} {v : V} (h : flat d = true) (r : Rep K Av H d v) : atomV d = some v := flat_atom h r

/-! ### raise -/
theorem upd_xd {H1 : Hp} {a dx : Addr} {C : Addr} {fs : List (Str × V)} (n : H1 a = none) (ne : dx ≠ a) : upd (del (upd (upd (upd H1 a (exo a C none)) dx (exd dx fs)) a (exo a C (some dx))) a) dx (.xd fs) = upd H1 dx (.xd fs) := by
  funext b
  by_cases h1 : b = dx
  · subst h1; rw [upd_same, upd_same]
  · rw [upd_ne h1, upd_ne h1]
    by_cases h2 : b = a
    · subst h2; rw [del_same, n]
    · rw [del_ne h2, upd_ne h2, upd_ne h1, upd_ne h2]
theorem upd_xd0 {H1 : Hp} {a t dx : Addr} {C : Addr} {fs : List (Str × V)} (n : H1 a = none) (nt : t ≠ a) (ne : dx ≠ a) :
    upd (del (upd (upd (upd (upd H1 a (exo a C none)) t (.tup [])) dx (exd dx fs)) a (exo a C (some dx))) a) dx (.xd fs) = upd (upd H1 t (.tup [])) dx (.xd fs) := by
  funext b
  by_cases h1 : b = dx
  · subst h1; rw [upd_same, upd_same]
  · rw [upd_ne h1, upd_ne h1]
    by_cases h2 : b = a
    · subst h2; rw [del_same, upd_ne (Ne.symm nt), n]
    · rw [del_ne h2, upd_ne h2, upd_ne h1]
      by_cases h3 : b = t
      · subst h3; rw [upd_same, upd_same]
      · rw [upd_ne h3, upd_ne h3, upd_ne h2]
theorem s_raise1 {K : Frag} {c k : Nat} {nm f fg : Str} {fI : Addr} {fd : FuncData} {ps : List Str} {e : Expr} {m : Ex} {p q : Pos} (hM : M = mkM K xs) (hK : X.K = K) (hx : xs[c]? = some (nm, [f])) (T : OexC X.K (He.ga X.K nm)) (hno : PySem.W.findIn X.K (.ref (He.ga X.K nm)) fg = some none) (hf : fg = f)
    (iC : PySem.W.findIn X.K (.ref (He.ga X.K nm)) "__init__" = some (some (.ref fI))) (tI : PySem.W.typeIn X.K (.ref fI) = some (.type "function")) (F1 : FnOk X.prog X.w X.K X.mg X.base (CX X.prog X.w) k fI fd ps (spExi X.K (He.ga X.K nm) f true)) (hr : Room (k + 1) X.A)
    (hb : Binds X.K fd ps []) (hg : Gl X nm) (hm : X.mg nm = some (.ref (He.ga X.K nm))) (hc : X.calm = true) (tk : Takes X W) (he : PE X e (EvR M W Fx (m C))) (hdb : (nm == ("__debug__" : Str)) = false) (hs : starEach [e] X.env = (false, eval e X.env) :: starEach [] X.env) :
    PS X (.Raise (some (.Call (.Name nm p) [e] [] q)) none pos) (SvR M W Fx (sRaiseX c 1 [m] C)) := by
  subst hM hK hf
  refine ps_weak (ps_raise hc tk (pmk_oex T iC tI F1 hr hb .nil (fun _ _ _ _ _ _ _ y => (cx_noX y).elim) hg hm (ev_cons hs he ev_nil) hdb hs rfl)) fun Z σ H ⟨B, env, ok, h⟩ => ?_
  refine ⟨B, env, ok, RRun.imp (flow_run.mp h) (fun ds env' q H' vs ok1 st1 r1 => ?_) fun _ _ _ q => xq_of q⟩
  by_cases hd : (ds.all flat && decide (ds.length = 1)) = true
  · rw [if_pos hd] at q
    rw [Bool.and_eq_true] at hd
    have hl := of_decide_eq_true hd.2
    match ds, hl with
    | [d], _ =>
      obtain ⟨v, r, rfl, h1, h2⟩ := r1
      cases (show r = [] from h2)
      have fl : flat d = true := by have := hd.1; rw [List.all_cons, Bool.and_eq_true] at this; exact this.1
      refine ⟨by simp, fun a na => ⟨a, H', rfl, na, T, hno, .inl ⟨rfl, v, rfl, fun dx nx ne => ⟨rfl, dx, [(fg, v)], upd_same, by rw [upd_ne ne, upd_same], ?_, ?_⟩⟩⟩⟩
      · rw [upd_ne ne] at nx; exact nx
      · rw [upd_ne ne] at nx
        rw [upd_xd na ne, ← cls_at (K := X.K) hx]
        refine q σ _ _ ⟨ok1.new nx, st1.trans (Step.new nx), _, hx, dx, _, rfl, upd_same, fun g d' hg' => ?_⟩
        have hg' : (if fg = g then some d else none) = some d' := hg'
        by_cases e1 : fg = g
        · rw [if_pos e1] at hg'
          cases hg'
          exact ⟨v, by rw [e1]; simp [List.lookup], flat_atom fl h1⟩
        · rw [if_neg e1] at hg'
          cases hg'
  · rw [if_neg hd] at q
    exact q.elim
theorem s_raise0 {K : Frag} {c k : Nat} {nm fg : Str} {fI : Addr} {fd : FuncData} {ps : List Str} {p q : Pos} (hM : M = mkM K xs) (hK : X.K = K) (hx : xs[c]? = some (nm, [])) (T : OexC X.K (He.ga X.K nm)) (hno : PySem.W.findIn X.K (.ref (He.ga X.K nm)) fg = some none)
    (iC : PySem.W.findIn X.K (.ref (He.ga X.K nm)) "__init__" = some (some (.ref fI))) (tI : PySem.W.typeIn X.K (.ref fI) = some (.type "function")) (F1 : FnOk X.prog X.w X.K X.mg X.base (CX X.prog X.w) k fI fd ps (spExi X.K (He.ga X.K nm) fg false)) (hr : Room (k + 1) X.A)
    (hb : Binds X.K fd ps []) (hg : Gl X nm) (hm : X.mg nm = some (.ref (He.ga X.K nm))) (hc : X.calm = true) (tk : Takes X W) (hdb : (nm == ("__debug__" : Str)) = false) :
    PS X (.Raise (some (.Call (.Name nm p) [] [] q)) none pos) (SvR M W Fx (sRaiseX c 0 [] C)) := by
  subst hM hK
  refine ps_weak (ps_raise hc tk (pmk_oex0 T iC tI F1 hr hb .nil (fun _ _ _ _ _ _ _ y => (cx_noX y).elim) hg hm hdb)) fun Z σ H ⟨B, env, ok, h⟩ => ?_
  have q : FRun (mkM X.K xs) W B Fx σ env H Z (.exc c [] env) := h
  refine ⟨Nat.zero_le _, fun a na => ⟨a, H, rfl, na, T, hno, .inr ⟨rfl, rfl, fun t nt dx nx ne => ⟨rfl, dx, [(fg, .ref t)], upd_same, by rw [upd_ne ne, upd_same], ?_, ?_⟩⟩⟩⟩
  all_goals
    have hta : t ≠ a := fun z => by rw [z, upd_same] at nt; cases nt
    rw [upd_ne hta] at nt
    have nxt : dx ≠ t := fun z => by rw [z, upd_same] at nx; cases nx
    rw [upd_ne nxt, upd_ne ne] at nx
  · exact nx
  · rw [upd_xd0 na hta ne, ← cls_at (K := X.K) hx]
    have nx2 : upd H t (.tup []) dx = none := by rw [upd_ne nxt]; exact nx
    exact q σ _ _ ⟨(ok.new nt).new nx2, (Step.new nt).trans (Step.new nx2), _, hx, dx, _, rfl, upd_same, fun g d' hg' => by cases hg'⟩

/-! ### try -/
theorem s_try {K : Frag} {t : Expr} {n x : Str} {m : Value → Option Bool} {i v : Nat} {hits : List Nat} {body : List Stmt} {mb : Sx} {np pos' pos2 pos3 : Pos} (hM : M = mkM K xs) (hK : X.K = K) (hs : X.stack = X.env :: X.outer) (hfr : X.env.frame = some X.env.locals) (hex : X.ex = [])
    (hN : X.N.Nodup) (hi : X.N[i]? = some n) (hln : X.env.kindOf n = some .local) (hv : X.N[v]? = some x) (hlx : X.env.kindOf x = some .local) (hd : (n == ("__debug__" : Str)) = false) (hcd : (n == ("__classdict__" : Str)) = false) (fi : ¬ Fx i) (fv : ¬ Fx v)
    (hc : ClauseOk X t m) (hm : ∀ c p, xs[c]? = some p → m (.ref (He.ga X.K p.1)) = some (hits.contains c)) (tk : Takes X W)
    (hb : ∀ (W' : WX) (pn : List (Addr × Obj)) (xe : Value → Shared → Prop), Takes (X.tr pn xe) W' → PassesOwn (model X.prog X.w) X.A X.env xe → PSs (X.tr pn xe) body (SvR M W' Fx (mb C))) :
    PS X (.Try body [.ExceptHandler (some t) (some n) [.Assign [.Name x pos2] (.Name n pos3) np] pos'] [] [] pos) (SvR M W Fx (sTry xs hits i v mb C)) := by
  subst hM hK
  refine ps_weak (ps_try_keep (i := i) (m := m) (ts := fun a cls d => _) hs hfr hex hN hi hln hc tk hb
    (fun a oe cls d pn _ _ => pss_one (ps_set (X := X.suite a ((a, oe) :: pn)) (i := v) hN hv (.inl hlx) (pe_var (X := X.suite a ((a, oe) :: pn)) hi (.inl hln) hd hcd) rfl (.inr hlx)))) fun Z σ H ⟨B, env, ok, h⟩ => ?_
  refine ⟨B, env, ok, ?_⟩
  have h : FRun (mkM X.K xs) W B Fx σ env H Z (match mb C env with
    | .exc c ds e' => if hits.contains c then catchX xs i v c ds e' else .exc c ds e'
    | r => r) := h
  cases e : mb C env with
  | next e' => rw [e] at h; exact h
  | brk e' => rw [e] at h; exact h
  | cont e' => rw [e] at h; exact h
  | ret s e' => rw [e] at h; exact h
  | no => rw [e] at h; exact h
  | exc c ds e' =>
    rw [e] at h
    have h : FRun (mkM X.K xs) W B Fx σ env H Z (if hits.contains c = true then catchX xs i v c ds e' else .exc c ds e') := h
    intro σ' H' dx p
    obtain ⟨pr, hx, dd, fs, rfl, hdd, hfl⟩ := p.x
    rw [cls_at (K := X.K) hx]
    refine ⟨_, hm c pr hx, fun hit a na => ?_, fun hit => ?_⟩
    · rw [if_pos hit] at h
      unfold catchX at h
      rw [hx] at h
      have h : FRun (mkM X.K xs) W B Fx σ env H Z (if decide (i < e'.length) = true then .next (((e'.set i none).set v (some (.val (xD pr.1 pr.2 ds)))).set i none) else .no) := h
      by_cases hil : i < e'.length
      · rw [if_pos (decide_eq_true hil)] at h
        have hil' : i < σ'.length := by rw [← p.ok.len]; exact hil
        obtain ⟨o1, s1⟩ := env_gone (x := some (.ref a)) p.ok fi
        refine ⟨.ref a, List.getElem?_set_self hil', fun na' => ?_⟩
        have o2 := o1.new (p := a) (o := xob a (.ref (He.ga X.K pr.1)) (some dd)) na
        have st2 := (p.st.trans s1).trans (Step.new (σ := σ'.set i (some (.ref a))) (env := e'.set i none) (o := xob a (.ref (He.ga X.K pr.1)) (some dd)) na)
        have rp : ∀ Av, Rep X.K Av (upd H' a (xob a (.ref (He.ga X.K pr.1)) (some dd))) (xD pr.1 pr.2 ds) (.ref a) := fun Av =>
          .inr ⟨pr.1, _, a, dd, fs, rfl, rfl, upd_same, by rw [upd_ne (fun z => by rw [z, na] at hdd; cases hdd)]; exact hdd, hfl⟩
        have ps : PostR X.K B Fx σ env H (σ'.set i (some (.ref a))) (e'.set i none) (upd H' a (xob a (.ref (He.ga X.K pr.1)) (some dd))) (.val (xD pr.1 pr.2 ds)) (.ref a) :=
          ⟨o2.mono Bt_val, st2, rp (Avd (Bt B (.val (xD pr.1 pr.2 ds)) (.ref a)) (σ'.set i (some (.ref a))) (e'.set i none)), fun _ t => (by obtain ⟨⟨_, z⟩, _⟩ := t; cases z), fun _ z => by cases z⟩
        obtain ⟨o3, st3⟩ := asgnR (M := mkM X.K xs) (own := false) fv ps (i := v) rfl
        obtain ⟨o4, s4⟩ := env_gone (x := none) o3 fi
        exact h _ _ o4 (st3.trans s4)
      · rw [if_neg (by simpa using hil)] at h
        exact h.elim
    · rw [if_neg (by rw [hit]; exact Bool.false_ne_true)] at h
      rw [← cls_at (K := X.K) hx]
      exact h σ' H' _ p

/-! ### looked at -/
theorem gXf_some {f : Str} {d : D} {s : Slot} (h : gXf xs f d = some s) : ∃ nm l d', d = .dict [(.str nm, .list l)] ∧ (∃ p ∈ xs, p.1 = nm ∧ f ∈ p.2) ∧ xfL f l = some d' ∧ s = .val d' := by
  unfold gXf at h
  split at h
  · rename_i nm l
    split at h
    · rename_i hh
      obtain ⟨d', h1, h2⟩ := Option.map_eq_some_iff.mp h
      unfold hasX at hh
      obtain ⟨p, hp, hq⟩ := List.any_eq_true.mp hh
      rw [Bool.and_eq_true] at hq
      exact ⟨nm, l, d', rfl, ⟨p, hp, eq_of_beq hq.1, List.contains_iff_mem.mp hq.2⟩, h1, h2.symm⟩
    · cases h
  · cases h
theorem sd_xf {K : Frag} {e : Expr} {f : Str} {p : Pos} {m : Ex} (hM : M.K = K) (hK : X.K = K) (T : ∀ p ∈ xs, XfC K (He.ga K p.1) ∧ ∀ f ∈ p.2, PySem.W.findIn K (.ref (He.ga K p.1)) f = some none) (ha : PE X e (EvR M W Fx (m C)))
    (hb : attributeBase e f X.env (eval e X.env) = eval e X.env := by rfl) : PE X (.Attribute e f p) (EvR M W Fx (cXf xs f m C)) := by
  refine pe_weak (pe_xfo ha hb) fun σ H Q h => ?_
  obtain ⟨B, env, ok, h⟩ := c1_read σ H Q h
  refine ⟨B, env, ok, h.imp (fun s e f H' v p => ?_) fun _ _ _ q => q⟩
  obtain ⟨B', σ', env', dx, sl, ok', px, hg, q⟩ := f H' v p
  obtain ⟨nm, l, d', rfl, ⟨pr, hp, rfl, hfp⟩, h1, rfl⟩ := gXf_some hg
  obtain ⟨x, l', a, dd, fs, e1, rfl, ho, hd, hl⟩ := rep_exc (Av := fun _ => True) px
  cases e1
  obtain ⟨w, h2, h3⟩ := hl _ _ h1
  obtain ⟨t1, t2⟩ := T pr hp
  subst hM
  rw [hK]
  exact ⟨a, _, dd, fs, w, rfl, ho, t1, t2 _ hfp, hd, h2, q _ _ (Post.val ok' Step.refl (atom_rep h3))⟩
theorem gIsX_some {yes no : List Str} {d : D} {s : Slot} (h : gIsX yes no d = some s) : ∃ nm l, d = .dict [(.str nm, .list l)] ∧ ((nm ∈ yes ∧ s = .val (.bool true)) ∨ (nm ∈ no ∧ s = .val (.bool false))) := by
  unfold gIsX at h
  split at h
  · rename_i nm l
    split at h
    · rename_i hh
      exact ⟨nm, l, rfl, .inl ⟨List.contains_iff_mem.mp hh, (Option.some.inj h).symm⟩⟩
    · split at h
      · rename_i hh
        exact ⟨nm, l, rfl, .inr ⟨List.contains_iff_mem.mp hh, (Option.some.inj h).symm⟩⟩
      · cases h
  · cases h
theorem sd_isX {K : Frag} {a b : Expr} {yes no : List Str} {p q : Pos} {m : Ex} {cv : Value} {c : V} (hM : M.K = K) (hK : X.K = K) (hg : Gl X "isinstance") (hmg : X.mg "isinstance" = none) (hcv : ∀ u, RelV c u → u = cv) (hbp : PE X b (tC c))
    (T1 : ∀ nm ∈ yes, ExcD K (He.ga K nm) ∧ PySem.W.kitOne K (.ref (He.ga K nm)) cv = some true) (T2 : ∀ nm ∈ no, ExcD K (He.ga K nm) ∧ PySem.W.kitOne K (.ref (He.ga K nm)) cv = some false) (ha : PE X a (EvR M W Fx (m C)))
    (hs : starEach [a, b] X.env = (false, eval a X.env) :: starEach [b] X.env) (hs2 : starEach [b] X.env = (false, eval b X.env) :: starEach [] X.env) (hp : (backTo q (starEach [b] X.env)).any (·.1) = false) :
    PE X (.Call (.Name "isinstance" p) [a, b] [] q) (EvR M W Fx (cIsX yes no m C)) := by
  refine pe_weak (pe_callB call_isX hg hmg rfl (pa_cons ha (pa_cons hbp pa_nil hs2) hs) (by decide) (by decide) hs hp) fun σ H Q h => ?_
  obtain ⟨B, env, ok, h⟩ := c1_read σ H Q h
  refine ⟨B, env, ok, h.imp (fun s e f H' v p => ?_) fun _ _ _ q => q⟩
  obtain ⟨B', σ', env', dx, sl, ok', px, hg, q⟩ := f H' v p
  obtain ⟨nm, l, rfl, hh⟩ := gIsX_some hg
  obtain ⟨x, l', a, dd, fs, e1, rfl, ho, hd, hl⟩ := rep_exc (Av := fun _ => True) px
  cases e1
  subst hM
  rw [hK]
  rcases hh with ⟨hy, rfl⟩ | ⟨hy, rfl⟩
  · obtain ⟨t1, t2⟩ := T1 _ hy
    exact ⟨a, _, dd, fs, c, cv, true, rfl, hcv, ho, hd, t1, t2, q _ _ (Post.val ok' Step.refl rfl)⟩
  · obtain ⟨t1, t2⟩ := T2 _ hy
    exact ⟨a, _, dd, fs, c, cv, false, rfl, hcv, ho, hd, t1, t2, q _ _ (Post.val ok' Step.refl rfl)⟩
end
end Ev
end
section
set_option linter.all false
set_option maxRecDepth 100000
set_option maxHeartbeats 2000000
/-! what the texts become, 1: names, the context's facts -/
namespace Ev
open PySem L2

def cNo : Ex := fun _ _ => .no
def tNo : Tx := fun _ _ => .no
def iNo : Ix := fun _ _ => .no

/-- a def as it is called: its number, its parameters, which are handed by name, calls by keywords -/
structure DI where
  ix : Nat
  ps : List Str
  rp : List Bool
  kw : List (Nat × List Str × List Nat)
/-- what an attribute's name stands for: a slot of a class, a property (its getter's number) -/
inductive At where
  | fld (c : Str) (k : Nat)
  | prp (c : Str) (fi : Nat)
  | mth (c : Str) (fi : Nat) (np : Nat)
  | xfl
/-- what is known of a block: the slots' names, the block's names, defs, constants, builtins that stand free, slots that are never stored, cells that may be stored, names that own -/
structure Sc where
  N : List Str
  names : List (Str × NameKind)
  defs : List (Str × DI)
  gl : List (Str × D)
  free : List Str
  rp : List Bool
  cel : List Str
  own : List Nat
  at_ : List (Str × At)
  ctr : List (Str × DI)
  exs : ExT
  xb : List Str
  stm : Bool

def slotOf : List Str → Str → Nat → Option Nat
  | [], _, _ => none
  | y :: ys, x, k => if y == x then some k else slotOf ys x (k + 1)
theorem slotOf_ok : ∀ {l : List Str} {x : Str} {k i : Nat}, slotOf l x k = some i → ∃ j, i = k + j ∧ l[j]? = some x
  | [], _, _, _, h => by cases h
  | y :: ys, x, k, i, h => by
    unfold slotOf at h
    split at h
    · rename_i e
      cases h
      exact ⟨0, rfl, by rw [eq_of_beq e]; rfl⟩
    · obtain ⟨j, e1, e2⟩ := slotOf_ok h
      exact ⟨j + 1, by omega, by simpa using e2⟩

def isVis : Option NameKind → Bool
  | some .local => true
  | some .cell => true
  | some .free => true
  | _ => false
theorem vis_ok {sc : Scope} {x : Str} (h : isVis (sc.names.lookup x) = true) : Vis sc x := by
  unfold Vis
  generalize sc.names.lookup x = o at h
  unfold isVis at h
  split at h
  · exact .inl rfl
  · exact .inr (.inl rfl)
  · exact .inr (.inr rfl)
  · cases h
def isGlo : Option NameKind → Bool
  | some .globalImplicit => true
  | _ => false
theorem glo_ok {o : Option NameKind} (h : isGlo o = true) : o = some .globalImplicit := by
  unfold isGlo at h
  split at h
  · rfl
  · cases h
def plainN (x : Str) : Bool := !(x == ("__debug__" : Str)) && !(x == ("__classdict__" : Str)) && !(x == ("__name__" : Str))
theorem plainN_ok {x : Str} (h : plainN x = true) : (x == ("__debug__" : Str)) = false ∧ (x == ("__classdict__" : Str)) = false ∧ x ≠ "__name__" := by
  unfold plainN at h
  simp only [Bool.and_eq_true, Bool.not_eq_true'] at h
  exact ⟨h.1.1, h.1.2, fun e => by subst e; exact absurd h.2 (by decide)⟩

structure DefOk (M : Mdl) (X : Cx) (C : Ctx) (x : Str) (d : DI) : Prop where
  go : ∃ (f : Addr) (fd : FuncData) (k : Nat), FnOk X.prog X.w X.K X.mg X.base (CX X.prog X.w) k f fd d.ps (spOf M C d.ps.length d.ix) ∧ Room k X.A ∧ X.mg x = some (.ref f) ∧ PySem.W.keepIn X.K (.ref f) = true ∧ Binds X.K fd d.ps [] ∧
    ∀ q ∈ d.kw, KwB X.K fd d.ps q.2.1 q.1 q.2.2
theorem cx_noS {P : Program} {w : World} {o : List PySem.Env} {H : Hp} {s s' : Shared} {e : Value} (h : CX P w o H s (fun _ _ _ => False) e s') : False := by
  obtain ⟨_, _, _, _, _, _, _, _, _, _, _, _, z⟩ := h
  exact z
def AtOk (M : Mdl) (X : Cx) (C : Ctx) (f : Str) : At → Prop
  | .fld c k => SlX.SCls X.K (He.ga X.K c) ∧ ∃ q, SlX.Slot1 X.K (He.ga X.K c) f q k
  | .prp c fi => SlX.SCls X.K (He.ga X.K c) ∧ ∃ (q g : Addr) (n : Nat), PySem.W.findIn X.K (.ref (He.ga X.K c)) f = some (some (.ref q)) ∧ PySem.W.specialIn X.K (.ref q) "__get__" = some (some (.builtin "property.__get__")) ∧
    PySem.W.takesIn X.K (.ref q) = some true ∧ (∃ rest, PySem.W.recIn X.K q "property" = some (.ref g :: rest)) ∧ FnR X.prog X.w X.K X.mg X.base (CX X.prog X.w) n g (spOf M C 1 fi) ∧ Room (n + 1) X.A
  | .xfl => True
  | .mth c fi np => SlX.SCls X.K (He.ga X.K c) ∧ ∃ (g : Addr) (n : Nat), Meth X.K (He.ga X.K c) f g ∧ FnR X.prog X.w X.K X.mg X.base (CX X.prog X.w) n g (spOf M C np fi) ∧ Room (n + 1) X.A
/-- is x a class of errors, one of their bases -/
def isX (xs : ExT) (xb : List Str) (x : Str) : Bool := xb.contains x || xs.any fun p => p.1 == x
/-- is the class nm below x -/
def catB (xb : List Str) (nm x : Str) : Bool := nm == x || xb.contains x
/-- what the written part says of the classes of errors -/
structure ExF (K : Frag) (mg : Str → Option Value) (xs : ExT) (xb : List Str) : Prop where
  one : ∀ p ∈ xs, OexC K (He.ga K p.1) ∧ XfC K (He.ga K p.1) ∧ ExcD K (He.ga K p.1) ∧ (∀ f ∈ p.2, PySem.W.findIn K (.ref (He.ga K p.1)) f = some none) ∧ mg p.1 = some (.ref (He.ga K p.1))
  base : ∀ x ∈ xb, mg x = some (.ref (He.ga K x))
  cat : ∀ p ∈ xs, ∀ x, isX xs xb x = true → PySem.W.exmOne K (.ref (He.ga K p.1)) (.ref (He.ga K x)) = some (catB xb p.1 x) ∧ PySem.W.kitOne K (.ref (He.ga K p.1)) (.ref (He.ga K x)) = some (catB xb p.1 x)
  vE : ∀ p ∈ xs, PySem.W.kitOne K (.ref (He.ga K p.1)) (.type "ValueError") = some true
theorem ExF.mgx {K : Frag} {mg : Str → Option Value} {xs : ExT} {xb : List Str} (F : ExF K mg xs xb) {x : Str} (h : isX xs xb x = true) : mg x = some (.ref (He.ga K x)) := by
  unfold isX at h
  rw [Bool.or_eq_true] at h
  rcases h with h | h
  · exact F.base x (List.contains_iff_mem.mp h)
  · obtain ⟨p, hp, e⟩ := List.any_eq_true.mp h
    have e := eq_of_beq e
    subst e
    exact (F.one p hp).2.2.2.2
/-- how an error is made -/
structure ExI (X : Cx) (p : Str × List Str) : Prop where
  go : ∃ (fI : Addr) (fd : FuncData) (ps : List Str) (fg : Str) (ar : Bool), PySem.W.findIn X.K (.ref (He.ga X.K p.1)) "__init__" = some (some (.ref fI)) ∧ PySem.W.typeIn X.K (.ref fI) = some (.type "function") ∧
    FnOk X.prog X.w X.K X.mg X.base (CX X.prog X.w) 1 fI fd ps (spExi X.K (He.ga X.K p.1) fg ar) ∧ Binds X.K fd ps [] ∧ Room 2 X.A ∧ PySem.W.findIn X.K (.ref (He.ga X.K p.1)) fg = some none ∧ ((ar = true ∧ p.2 = [fg]) ∨ (ar = false ∧ p.2 = []))
structure CtrOk (M : Mdl) (X : Cx) (C : Ctx) (x : Str) (d : DI) : Prop where
  go : ∃ (f : Addr) (k : Nat), Mk X.K (He.ga X.K x) f ∧ FnR X.prog X.w X.K X.mg X.base (CX X.prog X.w) k f (spNew M C (He.ga X.K x) d.ps.length d.ix) ∧ Room (k + 1) X.A ∧ X.mg x = some (.ref (He.ga X.K x))
structure Gd (M : Mdl) (W : WX) (Fx : Nat → Prop) (X : Cx) (C : Ctx) (sc : Sc) : Prop where
  hK : X.K = M.K
  hN : X.N = sc.N
  nm : X.env.scope.names = sc.names
  kd : X.env.scope.kind = .function
  nd : X.N.Nodup
  calm : X.calm = true
  tk : Takes X W
  fx : ∀ i, sc.rp[i]? ≠ some true → ¬ Fx i
  fn : ∀ x, x ∈ sc.cel → X.fn x = true
  un : X.A.units + 65 < cLine
  defs : ∀ x d, sc.defs.lookup x = some d → DefOk M X C x d
  gl : ∀ x d, sc.gl.lookup x = some d → ∃ v u, X.mg x = some u ∧ RelV v u ∧ ∀ Av H, Rep M.K Av H d v
  free : ∀ x, x ∈ sc.free → X.mg x = none
  at_ : ∀ f a, sc.at_.lookup f = some a → AtOk M X C f a
  ctr : ∀ x d, sc.ctr.lookup x = some d → CtrOk M X C x d
  mx : M = mkM M.K sc.exs
  exf : ExF X.K X.mg sc.exs sc.xb
  exi : sc.stm = true → ∀ p ∈ sc.exs, ExI X p
  stk : sc.stm = true → X.stack = X.env :: X.outer ∧ X.env.frame = some X.env.locals ∧ X.ex = []


/-- with what is found, otherwise d -/
def orD {α β : Type} : Option α → (α → β) → β → β
  | some a, f, _ => f a
  | none, _, d => d
def gdD {β : Type} : Bool → β → β → β
  | true, a, _ => a
  | false, _, d => d
theorem orD_ok {α β : Type} {P : β → Prop} {o : Option α} {f : α → β} {d : β} (h1 : ∀ a, o = some a → P (f a)) (h2 : P d) : P (orD o f d) := by
  cases o with
  | none => exact h2
  | some a => exact h1 a rfl
theorem gdD_ok {β : Type} {P : β → Prop} {b : Bool} {a d : β} (h1 : b = true → P a) (h2 : P d) : P (gdD b a d) := by
  cases b with
  | false => exact h2
  | true => exact h1 rfl
theorem and_ok {a b : Bool} (h : (a && b) = true) : a = true ∧ b = true := by rwa [Bool.and_eq_true] at h

def EOk (M : Mdl) (W : WX) (Fx : Nat → Prop) (X : Cx) (C : Ctx) (e : Expr) (m : Ex) : Prop := PE X e (EvR M W Fx (m C))
def TOk (M : Mdl) (W : WX) (Fx : Nat → Prop) (X : Cx) (C : Ctx) (e : Expr) (m : Tx) : Prop := PT X e (TvR M W Fx (m C))
def WOk (M : Mdl) (W : WX) (Fx : Nat → Prop) (X : Cx) (C : Ctx) (e : Expr) (m : Tx) : Prop := PW X e (TvR M W Fx (m C))
def IOk (M : Mdl) (W : WX) (Fx : Nat → Prop) (X : Cx) (C : Ctx) (tg e : Expr) (m : Ix) : Prop := PI X tg e (IvR M W Fx (m C))
def SOk (M : Mdl) (W : WX) (Fx : Nat → Prop) (X : Cx) (C : Ctx) (s : Stmt) (m : Sx) : Prop := PS X s (SvR M W Fx (m C))
def SsOk (M : Mdl) (W : WX) (Fx : Nat → Prop) (X : Cx) (C : Ctx) (s : List Stmt) (m : Sx) : Prop := PSs X s (SvR M W Fx (m C))
/-- a comparison: as a value, as a test -/
def CmpOk (M : Mdl) (W : WX) (Fx : Nat → Prop) (X : Cx) (C : Ctx) (e : Expr) (m : Ex) : Prop := EOk M W Fx X C e m ∧ TOk M W Fx X C e (tVal m)

section
variable {M : Mdl} {W : WX} {Fx : Nat → Prop} {X : Cx} {C : Ctx} {sc : Sc} {pos : Pos}
theorem pe_no {e : Expr} : EOk M W Fx X C e cNo := ⟨fun _ _ _ _ _ _ ⟨_, _, _, h⟩ => h.elim⟩
theorem pt_no {e : Expr} : TOk M W Fx X C e tNo := ⟨fun _ _ _ _ _ _ ⟨_, _, _, h⟩ => h.elim⟩
theorem pw_no {e : Expr} : WOk M W Fx X C e tNo := ⟨fun _ _ _ _ _ _ _ ⟨_, _, _, h⟩ => h.elim⟩
theorem pi_no {tg e : Expr} : IOk M W Fx X C tg e iNo := ⟨fun _ _ _ _ _ _ ⟨_, _, _, h⟩ => h.elim⟩
theorem ps_no {st : Stmt} : SOk M W Fx X C st sNo := ⟨fun _ _ _ _ _ _ ⟨_, _, _, h⟩ => h.elim⟩
theorem pss_no {st : List Stmt} : SsOk M W Fx X C st sNo := ⟨fun _ _ _ _ _ _ ⟨_, _, _, h⟩ => h.elim⟩
theorem no_cmp {e : Expr} : CmpOk M W Fx X C e cNo := ⟨pe_no, ⟨fun _ _ _ _ _ _ ⟨_, _, _, h⟩ => h.elim⟩⟩

theorem Gd.gl' (g : Gd M W Fx X C sc) {x : Str} (h : isGlo (sc.names.lookup x) = true) : Gl X x := by
  show X.env.scope.names.lookup x = _
  rw [g.nm]; exact glo_ok h

/-- a name of the block -/
def Sc.var (sc : Sc) : Expr → Option Nat
  | .Name x _ => if isVis (sc.names.lookup x) && plainN x then slotOf sc.N x 0 else none
  | _ => none
structure VarOk (X : Cx) (e : Expr) (i : Nat) : Prop where
  go : ∃ x p, e = .Name x p ∧ X.N[i]? = some x ∧ Vis X.env.scope x ∧ (x == ("__debug__" : Str)) = false ∧ (x == ("__classdict__" : Str)) = false
theorem slot_ok (g : Gd M W Fx X C sc) {x : Str} {i : Nat} (h : slotOf sc.N x 0 = some i) : X.N[i]? = some x := by
  obtain ⟨j, e1, e2⟩ := slotOf_ok h
  rw [g.hN, show i = j by omega]; exact e2
theorem var_ok (g : Gd M W Fx X C sc) {e : Expr} {i : Nat} (h : sc.var e = some i) : VarOk X e i := by
  cases e with
  | Name x p =>
    simp only [Sc.var] at h
    split at h
    · rename_i c
      rw [Bool.and_eq_true] at c
      obtain ⟨p1, p2, _⟩ := plainN_ok c.2
      exact ⟨x, p, rfl, slot_ok g h, vis_ok (by rw [g.nm]; exact c.1), p1, p2⟩
    · cases h
  | _ => simp [Sc.var] at h
theorem VarOk.v {e : Expr} {i : Nat} (h : VarOk X e i) : PE X e (tVar i) := by
  obtain ⟨x, p, rfl, h1, h2, h3, h4⟩ := h.go
  exact pe_var h1 h2 h3 h4
theorem VarOk.c {e : Expr} {i : Nat} (h : VarOk X e i) : EOk M W Fx X C e (cVar i) := by
  obtain ⟨x, p, rfl, h1, h2, h3, h4⟩ := h.go
  exact sd_var h1 h2 h3 h4
theorem VarOk.m {e : Expr} {i : Nat} (h : VarOk X e i) : EOk M W Fx X C e (cMov i) := by
  obtain ⟨x, p, rfl, h1, h2, h3, h4⟩ := h.go
  exact sd_mov h1 h2 h3 h4
/-- a name that owns (may own) its list -/
def Sc.ovar (sc : Sc) (e : Expr) : Option Nat := match sc.var e with
  | some i => if sc.own.contains i || (sc.rp[i]? == some true) then some i else none
  | none => none
theorem ovar_ok (g : Gd M W Fx X C sc) {e : Expr} {i : Nat} (h : sc.ovar e = some i) : VarOk X e i := by
  unfold Sc.ovar at h
  split at h
  · rename_i j hj
    split at h
    · cases h; exact var_ok g hj
    · cases h
  · cases h

def eName (sc : Sc) (x : Str) (p : Pos) : Ex := orD (sc.var (.Name x p)) cVar (gdD (isGlo (sc.names.lookup x) && plainN x) (orD (sc.gl.lookup x) cCon cNo) cNo)
theorem eName_ok (g : Gd M W Fx X C sc) {x : Str} {p : Pos} : EOk M W Fx X C (.Name x p) (eName sc x p) :=
  orD_ok (fun i h => (var_ok g h).c) (gdD_ok (fun c => orD_ok (fun d hd => by
    obtain ⟨v, u, h1, h2, h3⟩ := g.gl _ _ hd
    exact sd_glb (pe_glob (g.gl' (and_ok c).1) h1 h2 (plainN_ok (and_ok c).2).1) h3) pe_no) pe_no)

def eCon : Const → Ex
  | .int i => cCon (.int i)
  | .bool b => cCon (.bool b)
  | .str x => cCon (.str x)
  | .none => cCon .none
  | _ => cNo
theorem eCon_ok {c : Const} {k} {p : Pos} : EOk M W Fx X C (.Constant c k p) (eCon c) := by
  unfold eCon
  split
  · exact sd_con pe_int fun _ _ => rfl
  · exact sd_con pe_bl fun _ _ => rfl
  · exact sd_con pe_str fun _ _ => rfl
  · exact sd_con pe_non fun _ _ => rfl
  · exact pe_no

/-! ### operations -/
def bop : Operator → Option BOp
  | .Add => some .add | .Sub => some .sub | .Mult => some .mul | .FloorDiv => some .fdiv | .Mod => some .mod | .Pow => some .pow
  | _ => none
theorem bop_ok (g : Gd M W Fx X C sc) {op : Operator} {o : BOp} (h : bop op = some o) : OpR X (binaryOp op) (OpD M Fx (gBin o)) := by
  unfold bop at h
  split at h <;> cases h
  · exact od_add g.hK
  · exact od_sub g.hK
  · exact od_mul g.hK
  · exact od_fdiv g.hK
  · exact od_mod g.hK
  · exact od_pow g.hK
/-- two values into one -/
def e2 (f : Expr → Ex) (sc : Sc) (h : D → D → Option Slot) (a b : Expr) : Ex := orD (sc.ovar a) (fun i => c2V h i (f b)) (orD (sc.ovar b) (fun j => c2W h (f a) j) (c2 h (f a) (f b)))
theorem e2_ok (g : Gd M W Fx X C sc) {f : Expr → Ex} {h : D → D → Option Slot} {a b e : Expr} (ha : EOk M W Fx X C a (f a)) (hb : EOk M W Fx X C b (f b)) (he : ∀ {ta tb : TE}, PE X a ta → PE X b tb → PE X e (tOp (OpD M Fx h) ta tb)) : EOk M W Fx X C e (e2 f sc h a b) :=
  orD_ok (fun i hi => sd_c2V hb fun hb => he (ovar_ok g hi).v hb) (orD_ok (fun j hj => sd_c2W ha fun ha => he ha (ovar_ok g hj).v) (sd_c2 ha hb fun ha hb => he ha hb))
def eBin (f : Expr → Ex) (sc : Sc) (a : Expr) (op : Operator) (b : Expr) : Ex := orD (bop op) (fun o => e2 f sc (gBin o) a b) cNo
theorem eBin_ok (g : Gd M W Fx X C sc) {f : Expr → Ex} {a b : Expr} {op : Operator} {p : Pos} (ha : EOk M W Fx X C a (f a)) (hb : EOk M W Fx X C b (f b)) : EOk M W Fx X C (.BinOp a op b p) (eBin f sc a op b) :=
  orD_ok (fun o ho => e2_ok g ha hb fun ha hb => pe_op (bop_ok g ho) ha hb) pe_no

def eUn (f : Expr → Ex) (op : UnaryOp) (a : Expr) : Ex := match op with
  | .USub => cNeg (f a)
  | .Not => cNot (f a)
  | _ => cNo
theorem eUn_ok (g : Gd M W Fx X C sc) {f : Expr → Ex} {a : Expr} {op : UnaryOp} {p : Pos} (ha : EOk M W Fx X C a (f a)) : EOk M W Fx X C (.UnaryOp op a p) (eUn f op a) := by
  unfold eUn
  split
  · exact sd_c1 ha fun ha => pe_un (ur_neg g.hK) ha
  · exact sd_c1 ha fun ha => un_not g.hK ha
  · exact pe_no

/-! ### comparisons -/
def cop : CmpOp → Option COp
  | .Eq => some .eq | .NotEq => some .ne | .Lt => some .lt | .LtE => some .le | .Gt => some .gt | .GtE => some .ge | .In => some .isin | .NotIn => some .notin
  | _ => none
theorem cop_ok (g : Gd M W Fx X C sc) {op : CmpOp} {o : COp} (h : cop op = some o) : OpR X (compareOp op) (OpD M Fx (gCmp o)) := by
  unfold cop at h
  split at h <;> cases h
  · exact od_eq g.hK g.un
  · exact od_ne g.hK g.un
  · exact od_lt g.hK
  · exact od_le g.hK
  · exact od_gt g.hK
  · exact od_ge g.hK
  · exact od_in g.hK g.un
  · exact od_notin g.hK g.un
def notSet : Expr → Bool
  | .Set .. => false
  | _ => true
theorem notSet_mark {op : CmpOp} {b : Expr} (h : notSet b = true) : behindInMarks op b = false := by
  cases b <;> first | rfl | cases h
def isNone : Expr → Bool
  | .Constant .none _ _ => true
  | _ => false
theorem isNone_ok {e : Expr} (h : isNone e = true) : ∃ k p, e = .Constant .none k p := by
  unfold isNone at h
  split at h
  · exact ⟨_, _, rfl⟩
  · cases h
theorem c2V_read {i : Nat} {mb : Ex} {g : D → D → Option Slot} : ∀ σ H Q, EvR M W Fx (c2V g i mb C) σ H Q → tOp (OpD M Fx g) (tVar i) (EvR M W Fx (mb C)) σ H Q := fun σ H Q ⟨B, env, ok, h⟩ => by
  rw [show c2V g i mb C env = (R.opt (getS env i) env).bind fun _ e => (Ev.val (mb C e)).bind fun y e => opn ((datV e i).bind (g · y)) e from rfl, RRun.bind, RRun.opt] at h
  obtain ⟨s0, e0, h⟩ := h
  obtain ⟨v, hv, _⟩ := ok.rep i s0 e0
  refine ⟨v, hv, ?_⟩
  refine EvR.val ok h fun d2 e2 H2 y ok2 st2 r2 q => ?_
  obtain ⟨s, hs, q⟩ := RRun.opt.mp q
  obtain ⟨d, hd, hs⟩ := Option.bind_eq_some_iff.mp hs
  obtain ⟨v', e1, r⟩ := datV_pk ok2 hd
  rw [hv] at e1; cases e1
  exact ⟨B, σ, e2, d, d2, s, ok2, r, r2.pk, hs, fun H' v p => q H' v (p.more st2)⟩
theorem cmpV_bool {op : COp} {mb : Ex} {i : Nat} : ∀ env s e, c2V (gCmp op) i mb C env = .ok s e → ∃ b, s = .val (.bool b) := fun env s e h => by
  have h : (R.opt (getS env i) env).bind (fun _ e => (Ev.val (mb C e)).bind fun y e => opn ((datV e i).bind (gCmp op · y)) e) = .ok s e := h
  cases hg : getS env i with
  | none => rw [hg] at h; cases h
  | some s0 =>
    rw [hg] at h
    obtain ⟨d2, e2, h⟩ := val_ok (show (Ev.val (mb C env)).bind _ = .ok s e from h)
    obtain ⟨d, _, h⟩ := Option.bind_eq_some_iff.mp (opn_ok h)
    exact bl_bool h
theorem isN_read (ng : Bool) {ma : Ex} : ∀ σ H Q, EvR M W Fx (cIsN ng ma C) σ H Q → (if ng then tNotN else tIsN) (EvR M W Fx (ma C)) σ H Q := fun σ H Q h => by
  have key : ∀ {d : D} {K : Frag} {Av : Addr → Prop} {H : Hp} {x : V}, Pk K Av H d x → decide (x = .non) = isN d := fun {d K Av H x} r => by
    cases d with
    | none => rw [show x = V.non from r]; rfl
    | bool b => rw [show x = V.bl b from r]; rfl
    | int b => rw [show x = V.int b from r]; rfl
    | str b => rw [show x = V.str b from r]; rfl
    | list b => obtain ⟨a, vs, rfl, _⟩ := r; rfl
    | tuple b => obtain ⟨a, vs, rfl, _⟩ := r; rfl
    | dict b => rcases r with ⟨_, _, _, _, _, _, rfl, _⟩ | ⟨_, _, _, _, _, _, rfl, _⟩ <;> rfl
  obtain ⟨B, env, ok, h⟩ := c1_read σ H Q h
  cases ng with
  | false =>
    refine ⟨B, env, ok, h.imp (fun s e f H' v p => ?_) fun _ _ _ q => q⟩
    obtain ⟨B', σ', env', dx, sl, ok', px, hg, q⟩ := f H' v p
    cases hg
    rw [key px]
    exact q H' _ (Post.val ok' Step.refl rfl)
  | true =>
    refine ⟨B, env, ok, h.imp (fun s e f H' v p => ?_) fun _ _ _ q => q⟩
    obtain ⟨B', σ', env', dx, sl, ok', px, hg, q⟩ := f H' v p
    cases hg
    rw [key px]
    exact q H' _ (Post.val ok' Step.refl rfl)
theorem isN_cmp (ng : Bool) {a : Expr} {k} {p p' : Pos} {ma : Ex} (ha : EOk M W Fx X C a ma) : CmpOk M W Fx X C (.Compare a [if ng then .IsNot else .Is] [.Constant .none k p'] p) (cIsN ng ma) := by
  refine ⟨sd_c1 ha fun _ => or_isN ng ha, ?_⟩
  cases ng with
  | false => exact pt_weak (pt_cmp (pc_isN ha) rfl) fun σ H Q q => tB_read (isN_read false) isN_bool σ H Q q
  | true => exact pt_weak (pt_cmp (pc_notN ha) rfl) fun σ H Q q => tB_read (isN_read true) isN_bool σ H Q q
/-- two values compared -/
theorem e2_cmp (g : Gd M W Fx X C sc) {f : Expr → Ex} {o : COp} {op : CmpOp} {a b : Expr} {p : Pos} (ho : cop op = some o) (hm : behindInMarks op b = false) (ha : EOk M W Fx X C a (f a)) (hb : EOk M W Fx X C b (f b)) :
    CmpOk M W Fx X C (.Compare a [op] [b] p) (e2 f sc (gCmp o) a b) := by
  have h := cop_ok g ho
  refine ⟨e2_ok g ha hb fun ha hb => pe_cmpR h ha hb hm, ?_⟩
  unfold e2
  show TOk M W Fx X C _ (tVal (orD _ _ _))
  refine orD_ok (P := fun m => TOk M W Fx X C _ (tVal m)) (fun i hi => ?_) (orD_ok (P := fun m => TOk M W Fx X C _ (tVal m)) (fun j hj => ?_) ?_)
  · exact pt_weak (pt_cmpR h (ovar_ok g hi).v hb hm) fun σ H Q q => tB_read c2V_read cmpV_bool σ H Q q
  · exact pt_weak (pt_cmpR h ha (ovar_ok g hj).v hm) fun σ H Q q => tB_read c2W_read inV_bool σ H Q q
  · exact pt_weak (pt_cmpR h ha hb hm) fun σ H Q q => tB_read c2_read cmp_bool σ H Q q
def eCmp1 (f : Expr → Ex) (sc : Sc) (a : Expr) (op : CmpOp) (b : Expr) : Ex := orD (cop op) (fun o => gdD (notSet b) (e2 f sc (gCmp o) a b) cNo) cNo
theorem eCmp1_ok (g : Gd M W Fx X C sc) {f : Expr → Ex} {a b : Expr} {op : CmpOp} {p : Pos} (ha : EOk M W Fx X C a (f a)) (hb : EOk M W Fx X C b (f b)) : CmpOk M W Fx X C (.Compare a [op] [b] p) (eCmp1 f sc a op b) :=
  orD_ok (fun o ho => gdD_ok (fun hs => e2_cmp g ho (notSet_mark hs) ha hb) no_cmp) no_cmp
def eIs (f : Expr → Ex) (ng : Bool) (a b : Expr) : Ex := gdD (isNone b) (cIsN ng (f a)) cNo
theorem eIs_ok {f : Expr → Ex} {ng : Bool} {a b : Expr} {p : Pos} (ha : EOk M W Fx X C a (f a)) : CmpOk M W Fx X C (.Compare a [if ng then .IsNot else .Is] [b] p) (eIs f ng a b) :=
  gdD_ok (fun h => by
    obtain ⟨k, p', rfl⟩ := isNone_ok h
    exact isN_cmp ng ha) no_cmp
def eCmp (f : Expr → Ex) (sc : Sc) (a : Expr) : List CmpOp → List Expr → Ex
  | [.Is], [b] => eIs f false a b
  | [.IsNot], [b] => eIs f true a b
  | [op], [b] => eCmp1 f sc a op b
  | [o1, o2], [b, c] => orD (cop o1) (fun p1 => orD (cop o2) (fun p2 => gdD (notSet c) (cChn p1 p2 (f a) (f b) (f c)) cNo) cNo) cNo
  | _, _ => cNo
theorem eCmp_ok (g : Gd M W Fx X C sc) {f : Expr → Ex} {a : Expr} {ops : List CmpOp} {bs : List Expr} {p : Pos} (h : ∀ e, EOk M W Fx X C e (f e)) : CmpOk M W Fx X C (.Compare a ops bs p) (eCmp f sc a ops bs) := by
  unfold eCmp
  split
  · exact eIs_ok (ng := false) (h _)
  · exact eIs_ok (ng := true) (h _)
  · exact eCmp1_ok g (h _) (h _)
  · refine orD_ok (fun p1 h1 => orD_ok (fun p2 h2 => gdD_ok (fun hs => ?_) no_cmp) no_cmp) no_cmp
    rename_i o1 o2 b c
    have hm : lastMarks [o1, o2] [b, c] = false := notSet_mark (op := o2) hs
    exact ⟨sd_chn (cop_ok g h1) (cop_ok g h2) (h _) (h _) (h _) hm, pt_weak (pt_chain (cop_ok g h1) (cop_ok g h2) (h _) (h _) (h _) hm) fun σ H Q q => tB_read chn_read chn_bool σ H Q q⟩
  · exact no_cmp
end
end Ev
end
section
set_option linter.all false
set_option maxRecDepth 100000
set_option maxHeartbeats 2000000
/-! what the texts become, 2: the other expressions -/
namespace Ev
open PySem L2

def notStar : Expr → Bool
  | .Starred .. => false
  | _ => true
def isSp : Expr → Bool
  | .Starred .. => true
  | _ => false

section
variable {M : Mdl} {W : WX} {Fx : Nat → Prop} {X : Cx} {C : Ctx} {sc : Sc} {pos : Pos} {f : Expr → Ex}
theorem star_no {e : Expr} {es : List Expr} {env : PySem.Env} (h : notStar e = true) : starEach (e :: es) env = (false, eval e env) :: starEach es env := by
  cases e <;> first | rfl | cases h
theorem back_plain {env : PySem.Env} {p : Pos} : ∀ {es : List Expr}, es.all notStar = true → (backTo p (starEach es env)).any (·.1) = false
  | [], _ => rfl
  | e :: es, h => by
    rw [List.all_cons, Bool.and_eq_true] at h
    rw [star_no h.1]
    show (false || (backTo p (starEach es env)).any (·.1)) = false
    rw [Bool.false_or]
    exact back_plain h.2
theorem back_all {env : PySem.Env} {p : Pos} : ∀ {es : List Expr}, es.all notStar = true → (backTo p (starEach es env)).all (fun x => !x.1) = true
  | [], _ => rfl
  | e :: es, h => by
    rw [List.all_cons, Bool.and_eq_true] at h
    rw [star_no h.1]
    show (!false && (backTo p (starEach es env)).all (fun x => !x.1)) = true
    rw [Bool.not_false, Bool.true_and]
    exact back_all h.2
theorem evs_ok (h : ∀ e, EOk M W Fx X C e (f e)) : ∀ {es : List Expr}, es.all notStar = true → PA X es (LsR M W Fx (evs C (es.map f)))
  | [], _ => ev_nil
  | e :: es, hs => by
    rw [List.all_cons, Bool.and_eq_true] at hs
    exact ev_cons (star_no hs.1) (h e) (evs_ok h hs.2)

/-! ### displays -/
def eItems (f : Expr → Ex) (sc : Sc) : List Expr → List Item
  | [] => []
  | .Starred e _ :: es => orD (sc.ovar e) Item.starV (.star (f e)) :: eItems f sc es
  | e :: es => .one (f e) :: eItems f sc es
theorem items_ok (g : Gd M W Fx X C sc) (h : ∀ e, EOk M W Fx X C e (f e)) : ∀ {es : List Expr}, PA X es (LsR M W Fx (evItems C (eItems f sc es)))
  | [] => sd_nil
  | e :: es => by
    have ih := items_ok g h (es := es)
    have one : notStar e = true → PA X (e :: es) (LsR M W Fx (evItems C (.one (f e) :: eItems f sc es))) := fun hs => sd_one (star_no hs) (h e) ih
    cases e with
    | Starred e p =>
      show PA X _ (LsR M W Fx (evItems C (orD (sc.ovar e) Item.starV (.star (f e)) :: eItems f sc es)))
      refine orD_ok (P := fun m => PA X (.Starred e p :: es) (LsR M W Fx (evItems C (m :: eItems f sc es)))) (fun i hi => ?_) (sd_star g.hK (h e) ih)
      obtain ⟨x, q, rfl, h1, h2, h3, h4⟩ := (ovar_ok g hi).go
      exact sd_starV g.hK (pe_var h1 h2 h3 h4) ih
    | _ => exact one rfl
def eLst (f : Expr → Ex) (sc : Sc) (es : List Expr) : Ex := cLst (eItems f sc es)
theorem eLst_ok (g : Gd M W Fx X C sc) (h : ∀ e, EOk M W Fx X C e (f e)) {es : List Expr} {p : Pos} : EOk M W Fx X C (.List es p) (eLst f sc es) := sd_lst (items_ok g h)
def eTup (f : Expr → Ex) (sc : Sc) (es : List Expr) : Ex := cTup (eItems f sc es)
theorem eTup_ok (g : Gd M W Fx X C sc) (h : ∀ e, EOk M W Fx X C e (f e)) {es : List Expr} {k} {p : Pos} : EOk M W Fx X C (.Tuple es k p) (eTup f sc es) := sd_tup (items_ok g h)

/-! ### and, or as values -/
def eBool (f : Expr → Ex) (op : BoolOp) : List Expr → Ex
  | [] => cNo
  | [a] => f a
  | a :: rest => match op with
    | .And => cAnd (f a) (eBool f op rest)
    | .Or => cOr (f a) (eBool f op rest)
theorem eBool_ok (g : Gd M W Fx X C sc) (h : ∀ e, EOk M W Fx X C e (f e)) {op : BoolOp} {p : Pos} : ∀ {es : List Expr}, EOk M W Fx X C (.BoolOp op es p) (eBool f op es)
  | [] => pe_no
  | [a] => pe_one (h a)
  | a :: b :: rest => by
    have ih := eBool_ok g h (op := op) (p := p) (es := b :: rest)
    cases op with
    | And => exact sd_and g.hK (h a) ih fun ha hb => pe_andT ha hb
    | Or => exact sd_or g.hK (h a) ih fun ha hb => pe_orT ha hb

/-! ### tests -/
def tBool (t : Expr → Tx) (op : BoolOp) : List Expr → Tx
  | [] => tNo
  | [a] => t a
  | a :: rest => match op with
    | .And => tAnd (t a) (tBool t op rest)
    | .Or => tOr (t a) (tBool t op rest)
theorem tBool_ok {t : Expr → Tx} (h : ∀ e, TOk M W Fx X C e (t e)) {op : BoolOp} {p : Pos} : ∀ {es : List Expr}, WOk M W Fx X C (.BoolOp op es p) (tBool t op es)
  | [] => pw_no
  | [a] => by
    cases op with
    | And => exact pw_and1 (h a)
    | Or => exact pw_or1 (h a)
  | a :: b :: rest => by
    have ih := tBool_ok h (op := op) (p := p) (es := b :: rest)
    cases op with
    | And => exact sd_tAnd (h a) ih fun ha hb => pw_and ha hb
    | Or => exact sd_tOr (h a) ih fun ha hb => pw_or ha hb
def plainT : Expr → Bool
  | .UnaryOp .. => false
  | .BoolOp .. => false
  | .IfExp .. => false
  | .Compare .. => false
  | _ => true
theorem plainT_ok {e : Expr} {env : PySem.Env} (h : plainT e = true) : ∀ whole, isTrue e env whole = (do let v ← whole; standAt e.pos; holding [v] (truthy v)) := by
  cases e <;> first | (intro _; rfl) | cases h
def tAny (f : Expr → Ex) (t : Expr → Tx) (sc : Sc) (e : Expr) : Tx := match e with
  | .UnaryOp .Not a _ => tNot (t a)
  | .BoolOp op es _ => tBool t op es
  | .Compare a ops bs _ => tVal (eCmp f sc a ops bs)
  | e => gdD (plainT e) (tVal (f e)) tNo
theorem tAny_ok (g : Gd M W Fx X C sc) {t : Expr → Tx} (h : ∀ e, EOk M W Fx X C e (f e)) (ht : ∀ e, TOk M W Fx X C e (t e)) {e : Expr} : TOk M W Fx X C e (tAny f t sc e) := by
  unfold tAny
  split
  · exact sd_tNot (ht _)
  · exact (tBool_ok ht).pt
  · exact (eCmp_ok g h).2
  · exact gdD_ok (fun c => sd_tVal g.hK (h _) (plainT_ok c)) pt_no

/-! ### subscripts -/
def notSlice : Expr → Bool
  | .Slice .. => false
  | _ => true
theorem notSlice_ok {e : Expr} (h : notSlice e = true) : PlainIx e := by
  cases e <;> first | (intro _ _; rfl) | cases h
theorem rev_read {m : Ex} (hK : X.K = M.K) : ∀ σ H Q, EvR M W Fx (cRev m C) σ H Q → tRevLT X.K (EvR M W Fx (m C)) σ H Q := fun σ H Q h => by
  obtain ⟨B, env, ok, h⟩ := c1_read σ H Q h
  refine ⟨B, env, ok, h.imp (fun s e f H' v p => ?_) fun _ _ _ q => q⟩
  obtain ⟨B', σ', env', dx, sl, ok', px, hg, q⟩ := f H' v p
  unfold revD at hg
  split at hg
  · cases hg
    obtain ⟨a, vs, rfl, e1, r1⟩ := px
    exact .inl ⟨a, vs, rfl, SqL_of e1, fun p hp => q _ _ (Post.lst ok' Step.refl hp r1.reverse)⟩
  · cases hg
    obtain ⟨a, vs, rfl, e1, r1⟩ := px
    exact .inr ⟨a, vs, rfl, by rw [hK]; exact e1, fun p hp => q _ _ (Post.tup ok' Step.refl hp r1.reverse)⟩
  · cases hg
def eO (f : Expr → Ex) : Option Expr → Option Ex
  | none => none
  | some e => some (f e)
theorem eO_ok (h : ∀ e, EOk M W Fx X C e (f e)) {o : Option Expr} : PO X o (OvR M W Fx (evO C (eO f o))) := by
  cases o with
  | none => exact o_none
  | some e => exact o_some (h e)
def eSub (f : Expr → Ex) (sc : Sc) (a : Expr) (s : Expr) : Ex := match s with
  | .Slice none none (some (.UnaryOp .USub (.Constant (.int 1) _ _) _)) _ => cRev (f a)
  | .Slice lo hi none _ => orD (sc.var a) (fun i => cSlV i (eO f lo) (eO f hi)) (cSl (f a) (eO f lo) (eO f hi))
  | s => gdD (notSlice s) (e2 f sc gAt a s) cNo
theorem eSub_ok (g : Gd M W Fx X C sc) (h : ∀ e, EOk M W Fx X C e (f e)) {a s : Expr} {p : Pos} : EOk M W Fx X C (.Subscript a s p) (eSub f sc a s) := by
  unfold eSub
  split
  · exact pe_weak (pe_revLT (h a)) (rev_read g.hK)
  · exact orD_ok (fun i hi => sd_slV g.hK (var_ok g hi).v (eO_ok h) (eO_ok h)) (sd_sl g.hK (h a) (eO_ok h) (eO_ok h))
  · exact gdD_ok (fun c => e2_ok g (h _) (h _) fun ha hb => pe_ix (ir_at g.hK) ha hb (notSlice_ok c)) pe_no

/-! ### f-texts -/
def eJ (f : Expr → Ex) : List Expr → Option (List Ex)
  | [] => some []
  | .FormattedValue e (-1) none _ :: es => (eJ f es).map (f e :: ·)
  | .Constant (.str z) _ _ :: es => (eJ f es).map (cCon (.str z) :: ·)
  | _ => none
theorem eJ_ok (h : ∀ e, EOk M W Fx X C e (f e)) {es : List Expr} : ∀ {ms : List Ex}, eJ f es = some ms → ∃ ts, FJ M W Fx X C es ts ms := by
  fun_induction eJ f es with
  | case1 => intro ms e; cases e; exact ⟨_, .nil⟩
  | case2 e p es ih =>
    intro ms q
    obtain ⟨ms', h1, rfl⟩ := Option.map_eq_some_iff.mp q
    obtain ⟨ts, r⟩ := ih h1
    exact ⟨_, .fmt (h e) r⟩
  | case3 z k p es ih =>
    intro ms q
    obtain ⟨ms', h1, rfl⟩ := Option.map_eq_some_iff.mp q
    obtain ⟨ts, r⟩ := ih h1
    exact ⟨_, .con r⟩
  | case4 => intro ms q; cases q
def two {α : Type} : List α → Bool
  | _ :: _ :: _ => true
  | _ => false
def eFst (f : Expr → Ex) (es : List Expr) : Ex := gdD (two es) (orD (eJ f es) cFst cNo) cNo
theorem eFst_ok (h : ∀ e, EOk M W Fx X C e (f e)) {es : List Expr} {p : Pos} : EOk M W Fx X C (.JoinedStr es p) (eFst f es) :=
  gdD_ok (fun c => orD_ok (fun ms hm => by
    obtain ⟨ts, r⟩ := eJ_ok h hm
    match es, c with
    | e1 :: e2 :: es, _ => exact sd_fst r) pe_no) pe_no
end
end Ev
end
section
set_option linter.all false
set_option maxRecDepth 100000
set_option maxHeartbeats 2000000
/-! what the texts become, 3: calls -/
namespace Ev
open PySem L2

def noDup : List Nat → Bool
  | [] => true
  | x :: xs => !xs.contains x && noDup xs
theorem noDup_ok : ∀ {l : List Nat}, noDup l = true → l.Nodup
  | [], _ => .nil
  | x :: xs, h => by
    rw [noDup, Bool.and_eq_true] at h
    refine List.nodup_cons.mpr ⟨fun q => ?_, noDup_ok h.2⟩
    have := List.contains_iff_mem.mpr q
    rw [this] at h
    exact absurd h.1 (by simp)
section
variable {M : Mdl} {W : WX} {Fx : Nat → Prop} {X : Cx} {C : Ctx} {sc : Sc} {pos : Pos} {f : Expr → Ex}
/-! ### defs -/
def eArgs (f : Expr → Ex) (sc : Sc) : List Bool → List Nat → List Expr → List Arg
  | _, _, [] => []
  | bs, used, e :: es => match bs, sc.var e with
    | true :: bs, some i => if used.contains i then .val (f e) :: eArgs f sc bs used es else .ref i :: eArgs f sc bs (i :: used) es
    | _ :: bs, _ => .val (f e) :: eArgs f sc bs used es
    | [], _ => .val (f e) :: eArgs f sc [] used es
theorem args_ok (g : Gd M W Fx X C sc) (h : ∀ e, EOk M W Fx X C e (f e)) : ∀ {es : List Expr} {bs : List Bool} {used : List Nat}, es.all notStar = true → PA X es (AsR M W Fx (eArgs f sc bs used es) (evA C (eArgs f sc bs used es)))
  | [], _, _, _ => by unfold eArgs; exact as_nil
  | e :: es, bs, used, hs => by
    rw [List.all_cons, Bool.and_eq_true] at hs
    have hn := star_no (es := es) (env := X.env) hs.1
    unfold eArgs
    split
    · rename_i i hi
      split
      · exact as_val hn (h e) (args_ok g h hs.2)
      · exact as_ref hn (var_ok g hi).v (args_ok g h hs.2)
    · exact as_val hn (h e) (args_ok g h hs.2)
    · exact as_val hn (h e) (args_ok g h hs.2)
theorem args_len : ∀ {es : List Expr} {bs : List Bool} {used : List Nat}, (eArgs f sc bs used es).length = es.length
  | [], _, _ => by unfold eArgs; rfl
  | e :: es, bs, used => by
    unfold eArgs
    split
    · split <;> (rw [List.length_cons, List.length_cons, args_len])
    · rw [List.length_cons, List.length_cons, args_len]
    · rw [List.length_cons, List.length_cons, args_len]

def eCall1 (f : Expr → Ex) (sc : Sc) (d : DI) (es : List Expr) : Ex :=
  gdD (es.all notStar && decide (es.length = d.ps.length) && noDup (refsOf (eArgs f sc d.rp [] es))) (cCall d.ix (eArgs f sc d.rp [] es)) cNo
theorem eCall1_ok (g : Gd M W Fx X C sc) (h : ∀ e, EOk M W Fx X C e (f e)) {d : DI} {x : Str} {es : List Expr} {p q : Pos} (hd : sc.defs.lookup x = some d) (hg : isGlo (sc.names.lookup x) = true) (hx : plainN x = true) :
    EOk M W Fx X C (.Call (.Name x p) es [] q) (eCall1 f sc d es) :=
  gdD_ok (fun c => by
    obtain ⟨⟨c1, c2⟩, c3⟩ := (⟨and_ok (and_ok c).1, (and_ok c).2⟩ : (_ ∧ _) ∧ _)
    obtain ⟨fa, fd, k, F, hr, hm, hk, hb, _⟩ := (g.defs _ _ hd).go
    have hl := of_decide_eq_true c2
    match es, c1, c3, hl with
    | [], c1, c3, hl =>
      have : d.ps = [] := List.length_eq_zero_iff.mp hl.symm
      show PE X _ (EvR M W Fx (cCall d.ix (eArgs f sc d.rp [] []) C))
      rw [show eArgs f sc d.rp [] [] = [] by unfold eArgs; rfl]
      exact sd_call0 F hr (g.gl' hg) hm hk hb g.tk this (plainN_ok hx).1
    | e :: es, c1, c3, hl =>
      have c1' := c1
      rw [List.all_cons, Bool.and_eq_true] at c1'
      exact sd_call F hr (g.gl' hg) hm hk hb g.tk (args_ok g h c1) (noDup_ok c3) (by rw [args_len]; exact hl) (plainN_ok hx).1 (star_no c1'.1) (back_plain c1'.2)) pe_no

/-- the keywords' names -/
def kwNames : List Keyword → Option (List Str)
  | [] => some []
  | ⟨some x, _, _⟩ :: r => (kwNames r).map (x :: ·)
  | ⟨none, _, _⟩ :: _ => none
def kwVals (f : Expr → Ex) : List Keyword → List Ex
  | [] => []
  | ⟨_, e, _⟩ :: r => f e :: kwVals f r
theorem kw_ok (h : ∀ e, EOk M W Fx X C e (f e)) : ∀ {kws : List Keyword}, PK X kws (LsR M W Fx (evs C (kwVals f kws)))
  | [] => kw_nil
  | ⟨x, e, p⟩ :: r => kw_cons (h e) (kw_ok h)
theorem kw_names {env : PySem.Env} {p : Pos} : ∀ {kws : List Keyword} {ks : List Str}, kwNames kws = some ks → (backToKw p (keywordEach kws env)).all (·.1.isSome) = true ∧ (backToKw p (keywordEach kws env)).filterMap (·.1) = ks ∧
    (backToKw p (keywordEach kws env)).any (·.1.isNone) = false ∧ ∀ {f : Expr → Ex}, (kwVals f kws).length = ks.length
  | [], ks, e => by cases e; exact ⟨rfl, rfl, rfl, rfl⟩
  | ⟨none, _, _⟩ :: _, _, e => by cases e
  | ⟨some x, v, q⟩ :: r, ks, e => by
    obtain ⟨ks', e1, rfl⟩ := Option.map_eq_some_iff.mp (show (kwNames r).map (x :: ·) = some ks from e)
    obtain ⟨h1, h2, h3, h4⟩ := kw_names (p := p) (env := env) e1
    refine ⟨?_, ?_, ?_, ?_⟩
    · show (true && (backToKw p (keywordEach r env)).all (·.1.isSome)) = true
      rw [h1]; rfl
    · show x :: (backToKw p (keywordEach r env)).filterMap (·.1) = _
      rw [h2]
    · show (false || (backToKw p (keywordEach r env)).any (·.1.isNone)) = false
      rw [h3]; rfl
    · intro f
      show (kwVals f r).length + 1 = _
      rw [h4]; rfl
def kwFind (n : Nat) (ks : List Str) : List (Nat × List Str × List Nat) → Option (List Nat)
  | [] => none
  | (m, l, pm) :: r => if m == n && l == ks then some pm else kwFind n ks r
theorem kwFind_ok {n : Nat} {ks : List Str} {pm : List Nat} : ∀ {l : List (Nat × List Str × List Nat)}, kwFind n ks l = some pm → (n, ks, pm) ∈ l
  | [], h => by cases h
  | (m, l, p) :: r, h => by
    unfold kwFind at h
    split at h
    · rename_i c
      cases h
      obtain ⟨c1, c2⟩ := and_ok c
      rw [eq_of_beq c1, eq_of_beq c2]
      exact List.mem_cons_self ..
    · exact List.mem_cons_of_mem _ (kwFind_ok h)
def eNew (f : Expr → Ex) (sc : Sc) (d : DI) (es : List Expr) : Ex := match es with
  | [] => cNo
  | e :: es => gdD ((e :: es).all notStar && decide ((e :: es).length = d.ps.length) && noDup (refsOf (eArgs f sc d.rp [] (e :: es)))) (cCall d.ix (eArgs f sc d.rp [] (e :: es))) cNo
theorem eNew_ok (g : Gd M W Fx X C sc) (h : ∀ e, EOk M W Fx X C e (f e)) {d : DI} {x : Str} {es : List Expr} {p q : Pos} (hd : sc.ctr.lookup x = some d) (hg : isGlo (sc.names.lookup x) = true) (hx : plainN x = true) :
    EOk M W Fx X C (.Call (.Name x p) es [] q) (eNew f sc d es) := by
  unfold eNew
  split
  · exact pe_no
  · rename_i e es
    refine gdD_ok (fun c => ?_) pe_no
    obtain ⟨⟨c1, c2⟩, c3⟩ := (⟨and_ok (and_ok c).1, (and_ok c).2⟩ : (_ ∧ _) ∧ _)
    obtain ⟨fa, k, Mm, F, hr, hm⟩ := (g.ctr _ _ hd).go
    have c1' := c1
    rw [List.all_cons, Bool.and_eq_true] at c1'
    exact sd_new Mm F hr (g.gl' hg) hm g.tk (args_ok g h c1) (noDup_ok c3) (by rw [args_len]; exact of_decide_eq_true c2) (plainN_ok hx).1 (star_no c1'.1) (back_plain c1'.2)
def eCallK (f : Expr → Ex) (sc : Sc) (d : DI) (es : List Expr) (kws : List Keyword) : Ex :=
  orD (kwNames kws) (fun ks => orD (kwFind es.length ks d.kw) (fun pm => gdD (es.all notStar && decide (pm.length = d.ps.length)) (cCallK d.ix (es.map f ++ kwVals f kws) pm) cNo) cNo) cNo
theorem eCallK_ok (g : Gd M W Fx X C sc) (h : ∀ e, EOk M W Fx X C e (f e)) {d : DI} {x : Str} {es : List Expr} {kws : List Keyword} {p q : Pos} (hd : sc.defs.lookup x = some d) (hg : isGlo (sc.names.lookup x) = true) (hx : plainN x = true) :
    EOk M W Fx X C (.Call (.Name x p) es kws q) (eCallK f sc d es kws) :=
  orD_ok (fun ks hks => orD_ok (fun pm hpm => gdD_ok (fun c => by
    obtain ⟨fa, fd, k, F, hr, hm, hk, hb, hkw⟩ := (g.defs _ _ hd).go
    have hl := of_decide_eq_true (and_ok c).2
    have hB := hkw _ (kwFind_ok hpm)
    obtain ⟨n1, n2, n3, n4⟩ := kw_names (p := q) (env := X.env) hks
    match es, (and_ok c).1, hB with
    | [], _, hB => exact sd_callK0 F hr (g.gl' hg) hm hk hB g.tk (kw_ok h) hl n4 n1 n2 (plainN_ok hx).1 (by rw [n3]; rfl)
    | e :: es, c1, hB =>
      have c1' := c1
      rw [List.all_cons, Bool.and_eq_true] at c1'
      exact sd_callK F hr (g.gl' hg) hm hk (ms := (e :: es).map f) (by rw [List.length_map]; exact hB) g.tk (evs_ok h c1) (kw_ok h) hl n4 n1 n2 (plainN_ok hx).1 (star_no c1'.1) (by rw [back_plain c1, n3]; rfl)) pe_no) pe_no) pe_no

/-! ### builtins -/
def biTab : List (Str × BI) := [("len", .len), ("abs", .abs), ("int", .int), ("str", .str), ("min", .min), ("max", .max), ("sum", .sum), ("all", .all), ("any", .any), ("sorted", .sorted), ("list", .list), ("tuple", .tuple)]
theorem biTab_boot : ∀ q ∈ biTab, bootBuiltins q.1 = some (biV q.2) := by
  intro q hq
  simp only [biTab, List.mem_cons, List.not_mem_nil, or_false] at hq
  rcases hq with rfl | rfl | rfl | rfl | rfl | rfl | rfl | rfl | rfl | rfl | rfl | rfl <;> rfl
theorem lookup_mem {β : Type} {x : Str} {b : β} : ∀ {l : List (Str × β)}, l.lookup x = some b → (x, b) ∈ l
  | [], h => by cases h
  | (y, c) :: r, h => by
    rw [List.lookup_cons] at h
    split at h
    · rename_i e
      cases h
      rw [eq_of_beq e]; exact List.mem_cons_self ..
    · exact List.mem_cons_of_mem _ (lookup_mem h)
theorem has_ok {l : List Str} {x : Str} (h : l.contains x = true) : x ∈ l := List.contains_iff_mem.mp h
/-- a builtin's call, by what it is called for -/
theorem pe_biCall {b : BI} {x : Str} {e : Expr} {es : List Expr} {t : TA} {p q : Pos} (g : Gd M W Fx X C sc) (hb : biTab.lookup x = some b) (hg : Gl X x) (hm : X.mg x = none) (hx : plainN x = true) (hs : (e :: es).all notStar = true) (ha : PA X (e :: es) t) :
    PE X (.Call (.Name x p) (e :: es) [] q) (tCB (CallD M Fx (biD b)) t) := by
  have hv := biTab_boot _ (lookup_mem hb)
  have hc := cr_bi (Fx := Fx) g.hK g.calm b
  obtain ⟨p1, _, p3⟩ := plainN_ok hx
  rw [List.all_cons, Bool.and_eq_true] at hs
  have s1 := star_no (es := es) (env := X.env) hs.1
  have s2 := back_plain (p := q) (env := X.env) hs.2
  have fn : ∀ {id : String}, biV b = .builtin id → PE X (.Call (.Name x p) (e :: es) [] q) (tCB (CallD M Fx (biD b)) t) := fun {id} z => by
    rw [z] at hv hc
    exact pe_callB hc hg hm hv ha p3 p1 s1 s2
  have ty : ∀ {id : String}, biV b = .type id → PE X (.Call (.Name x p) (e :: es) [] q) (tCB (CallD M Fx (biD b)) t) := fun {id} z => by
    rw [z] at hv hc
    exact pe_callTy hc hg hm hv ha p3 p1 s1 s2
  cases b <;> first | exact fn rfl | exact ty rfl
/-- the class whose instances have a length -/
def Sc.ln (sc : Sc) : Option (Str × Nat) := match sc.at_.lookup ("__len__" : Str) with
  | some (.mth c fi 1) => some (c, fi)
  | _ => none
def eBi (f : Expr → Ex) (sc : Sc) (b : BI) : List Expr → Ex
  | [] => cNo
  | [e] => gdD (notStar e) (orD (sc.ovar e) (cBiV b) (match b with
    | .len => orD sc.ln (fun q => cLenI q.1 q.2 (f e)) (cBi .len [f e])
    | b => cBi b [f e])) cNo
  | es => gdD (es.all notStar) (cBi b (es.map f)) cNo
theorem eBi_ok (g : Gd M W Fx X C sc) (h : ∀ e, EOk M W Fx X C e (f e)) {b : BI} {x : Str} {es : List Expr} {p q : Pos} (hb : biTab.lookup x = some b) (hg : isGlo (sc.names.lookup x) = true) (hm : sc.free.contains x = true) (hx : plainN x = true) :
    EOk M W Fx X C (.Call (.Name x p) es [] q) (eBi f sc b es) := by
  have hm' := g.free _ (has_ok hm)
  match es with
  | [] => exact pe_no
  | [e] =>
    refine gdD_ok (fun c => orD_ok (fun i hi => ?_) ?_) pe_no
    · exact sd_biV (pe_biCall g hb (g.gl' hg) hm' hx (by rw [List.all_cons, c]; rfl) (pa_cons (ovar_ok g hi).v pa_nil (star_no c)))
    · have dflt : EOk M W Fx X C (.Call (.Name x p) [e] [] q) (cBi b [f e]) := sd_bi (evs_ok h (es := [e]) (by rw [List.all_cons, c]; rfl)) fun ha => pe_biCall g hb (g.gl' hg) hm' hx (by rw [List.all_cons, c]; rfl) ha
      split
      · refine orD_ok (fun z hz => ?_) dflt
        obtain ⟨c1, c2⟩ := z
        unfold Sc.ln at hz
        split at hz
        · rename_i c' fi' hl
          cases hz
          obtain ⟨z1, ga, n, z2, z3, z4⟩ := g.at_ _ _ hl
          have hxl : x = "len" := by
            have mem := lookup_mem hb
            simp only [biTab, List.mem_cons, List.not_mem_nil, or_false, Prod.mk.injEq, reduceCtorEq, and_false, and_true, false_or] at mem
            exact mem
          subst hxl
          exact sd_len g.hK g.calm (g.gl' hg) hm' z1 z2 z3 z4 (fun _ _ _ _ _ _ _ y => (cx_noS y).elim) (h e) (star_no c)
        · cases hz
      · exact dflt
  | e :: e2 :: es =>
    exact gdD_ok (fun c => sd_bi (evs_ok h c) fun ha => pe_biCall g hb (g.gl' hg) hm' hx c ha) pe_no

/-! ### list(range(..)), tuple(range(..)) -/
theorem rng_len (lo : Int) (n : Nat) : (rngL lo n).length = n := by unfold rngL; rw [List.length_map, List.length_range]
theorem rep_rng {K : Frag} {Av : Addr → Prop} {H : Hp} {a b : Int} : RepL K Av H (rngL a (b - a).toNat) (rgV a b) := by
  have h := repI (K := K) (Av := Av) (H := H) ((List.range (b - a).toNat).map fun i : Nat => a + (i : Int))
  rw [List.map_map, List.map_map] at h
  exact h
/-- what a range of small bounds becomes -/
theorem rg_end {tp : Bool} {a b : Int} {s : Slot} {B : Addr → Prop} {σ : St} {env : Env} {H : Hp} {Q : VK} (ha : rngOk a = true) (hb : rngOk b = true) (hs : rgS tp (some (rngL a (b - a).toNat)) = some s) (ok : EnvOk M.K B H σ env)
    (q : ∀ H' v, Post M.K B Fx σ env H env H' s v → Q v H') : RgOk a b ∧ ∀ p, H p = none → Q (.ref p) (upd H p (if tp then .tup (rgV a b) else .lst (rgV a b))) := by
  unfold rgS at hs
  obtain ⟨hz, rfl⟩ := if_some hs
  have hz := of_decide_eq_true hz
  rw [rng_len] at hz
  obtain ⟨a1, a2⟩ := rngOk_c ha
  obtain ⟨b1, b2⟩ := rngOk_c hb
  refine ⟨⟨a1, a2, b1, b2, hz⟩, fun p hp => ?_⟩
  cases tp with
  | false => exact q _ _ (Post.lst ok Step.refl hp rep_rng)
  | true => exact q _ _ (Post.tup ok Step.refl hp rep_rng)
def tRgs (tp : Bool) (te : St → Hp → (Int → Int → Hp → Prop) → Prop) : TE := fun σ H Q => te σ H fun a b H1 => RgOk a b ∧ ∀ q, H1 q = none → Q (.ref q) (upd H1 q (if tp then .tup (rgV a b) else .lst (rgV a b)))
theorem pe_rgs {tp : Bool} {x : Str} {e : Expr} {te : St → Hp → (Int → Int → Hp → Prop) → Prop} {p q : Pos} (hc : X.calm = true) (hx : x = if tp then "tuple" else "list") (hg : Gl X x) (hm : X.mg x = none) (he : PRg X e te)
    (na : starEach [e] X.env = (false, eval e X.env) :: starEach [] X.env) : PE X (.Call (.Name x p) [e] [] q) (tRgs tp te) := by
  cases tp with
  | false => subst hx; exact pe_listRg hc hg hm he na
  | true => subst hx; exact pe_tupRg hc hg hm he na
theorem rg1_read {tp : Bool} {ma : Ex} : ∀ σ H Q, EvR M W Fx (cRg1 tp ma C) σ H Q → tRgs tp (tRg1 (EvR M W Fx (ma C))) σ H Q := fun σ H Q h => by
  obtain ⟨B, env, ok, h⟩ := c1_read σ H Q h
  refine ⟨B, env, ok, h.imp (fun s e f H' v p => ?_) fun _ _ _ q => q⟩
  obtain ⟨B', σ', env', dx, sl, ok', px, hg, q⟩ := f H' v p
  have hg : rgS tp (rangeD [dx]) = some sl := hg
  cases hr : rangeD [dx] with
  | none => rw [hr] at hg; cases hg
  | some ds =>
    obtain ⟨j, rfl, h1, rfl⟩ := rng1_c hr
    rw [hr] at hg
    cases px
    refine ⟨j, rfl, rg_end (by decide) h1 (by rw [Int.sub_zero]; exact hg) ok' q⟩
theorem rg2_read {tp : Bool} {ma mb : Ex} : ∀ σ H Q, EvR M W Fx (cRg2 tp ma mb C) σ H Q → tRgs tp (tRg2 (EvR M W Fx (ma C)) (EvR M W Fx (mb C))) σ H Q := fun σ H Q ⟨B, env, ok, h⟩ => by
  refine EvR.val ok h fun d e1 H1 x ok1 s1 r1 q => ?_
  refine EvR.val ok1 q fun d2 e2 H2 y ok2 s2 r2 q => ?_
  obtain ⟨s, hs, qq⟩ := RRun.opt.mp q
  have hs : rgS tp (rangeD [d, d2]) = some s := hs
  cases hr : rangeD [d, d2] with
  | none => rw [hr] at hs; cases hs
  | some ds =>
    obtain ⟨i, j, rfl, rfl, h1, h2, rfl⟩ := rng2_c hr
    rw [hr] at hs
    have r1 : x = V.int i := r1
    have r2 : y = V.int j := r2
    subst r1 r2
    exact ⟨i, j, rfl, rfl, rg_end h1 h2 hs ok2 fun H' v p => qq H' v (p.more (s1.trans s2))⟩
def eRg (f : Expr → Ex) (tp : Bool) : List Expr → Ex
  | [a] => gdD (notStar a) (cRg1 tp (f a)) cNo
  | [a, b] => gdD (notStar a && notStar b) (cRg2 tp (f a) (f b)) cNo
  | _ => cNo
def Sc.rg (sc : Sc) : List Expr → Option (List Expr)
  | [.Call (.Name y _) as [] _] => if isGlo (sc.names.lookup y) && sc.free.contains y && (y == ("range" : Str)) then some as else none
  | _ => none
theorem rg_ok (g : Gd M W Fx X C sc) (h : ∀ e, EOk M W Fx X C e (f e)) {tp : Bool} {x : Str} {es as : List Expr} {p q : Pos} (hr : sc.rg es = some as) (hx : x = if tp then "tuple" else "list") (hg : isGlo (sc.names.lookup x) = true) (hm : sc.free.contains x = true) :
    EOk M W Fx X C (.Call (.Name x p) es [] q) (eRg f tp as) := by
  unfold Sc.rg at hr
  split at hr
  · rename_i y p' as' q'
    split at hr
    · rename_i c
      cases hr
      obtain ⟨c, c3⟩ := and_ok c
      obtain ⟨c1, c2⟩ := and_ok c
      obtain rfl := eq_of_beq c3
      have hR := g.free _ (has_ok c2)
      have hX := g.free _ (has_ok hm)
      unfold eRg
      split
      · exact gdD_ok (fun s => pe_weak (pe_rgs g.calm hx (g.gl' hg) hX (prg_1 (g.gl' c1) hR (h _) (star_no s)) rfl) rg1_read) pe_no
      · exact gdD_ok (fun s => pe_weak (pe_rgs g.calm hx (g.gl' hg) hX (prg_2 (g.gl' c1) hR (h _) (h _) (star_no (and_ok s).1) (star_no (and_ok s).2) (back_plain (by rw [List.all_cons, (and_ok s).2]; rfl))) rfl) rg2_read) pe_no
      · exact pe_no
    · cases hr
  · cases hr

/-- list(zip(a, b)) -/
def Sc.zp (sc : Sc) : List Expr → Option (Expr × Expr)
  | [.Call (.Name y _) [a, b] [] _] => if isGlo (sc.names.lookup y) && sc.free.contains y && (y == ("zip" : Str)) && (notStar a && notStar b) then some (a, b) else none
  | _ => none
theorem zp_ok (g : Gd M W Fx X C sc) (h : ∀ e, EOk M W Fx X C e (f e)) {es : List Expr} {ab : Expr × Expr} {p q : Pos} (hr : sc.zp es = some ab) (hg : isGlo (sc.names.lookup ("list" : Str)) = true) (hm : sc.free.contains ("list" : Str) = true) :
    EOk M W Fx X C (.Call (.Name "list" p) es [] q) (cLz (f ab.1) (f ab.2)) := by
  unfold Sc.zp at hr
  split at hr
  · rename_i y p' a b q'
    split at hr
    · rename_i c
      cases hr
      obtain ⟨c, c4⟩ := and_ok c
      obtain ⟨c, c3⟩ := and_ok c
      obtain ⟨c1, c2⟩ := and_ok c
      obtain rfl := eq_of_beq c3
      exact sd_lz g.hK g.calm (g.gl' hg) (g.free _ (has_ok hm)) (g.gl' c1) (g.free _ (has_ok c2)) (h _) (h _) (star_no (and_ok c4).1) (star_no (and_ok c4).2)
    · cases hr
  · cases hr
/-- sorted(set(a)) -/
def Sc.ss (sc : Sc) : List Expr → Option Expr
  | [.Call (.Name y _) [a] [] _] => if isGlo (sc.names.lookup y) && sc.free.contains y && (y == ("set" : Str)) && notStar a then some a else none
  | _ => none
theorem ss_ok (g : Gd M W Fx X C sc) (h : ∀ e, EOk M W Fx X C e (f e)) {es : List Expr} {a : Expr} {p q : Pos} (hr : sc.ss es = some a) (hg : isGlo (sc.names.lookup ("sorted" : Str)) = true) (hm : sc.free.contains ("sorted" : Str) = true) :
    EOk M W Fx X C (.Call (.Name "sorted" p) es [] q) (cSs (f a)) := by
  unfold Sc.ss at hr
  split at hr
  · rename_i y p' a q'
    split at hr
    · rename_i c
      cases hr
      obtain ⟨c, c4⟩ := and_ok c
      obtain ⟨c, c3⟩ := and_ok c
      obtain ⟨c1, c2⟩ := and_ok c
      obtain rfl := eq_of_beq c3
      exact sd_ss g.hK g.calm (g.gl' hg) (g.free _ (has_ok hm)) (g.gl' c1) (g.free _ (has_ok c2)) (h _) (star_no c4)
    · cases hr
  · cases hr
/-! ### isinstance -/
def tyTab : List (Str × Ty) := [("int", .int), ("bool", .bool), ("str", .str), ("list", .list), ("tuple", .tuple)]
theorem tyTab_ok : ∀ q ∈ tyTab, tyOk q.2 = true ∧ bootBuiltins q.1 = some (.type (tyN q.2)) := by
  intro q hq
  simp only [tyTab, List.mem_cons, List.not_mem_nil, or_false] at hq
  rcases hq with rfl | rfl | rfl | rfl | rfl <;> exact ⟨rfl, rfl⟩
def Sc.ty (sc : Sc) : Expr → Option Ty
  | .Name x _ => if isGlo (sc.names.lookup x) && plainN x && sc.free.contains x then tyTab.lookup x else none
  | _ => none
theorem ty_ok (g : Gd M W Fx X C sc) {e : Expr} {t : Ty} (h : sc.ty e = some t) : tyOk t = true ∧ notStar e = true ∧ PE X e (tC (.ty (tyN t))) := by
  cases e with
  | Name x p =>
    simp only [Sc.ty] at h
    split at h
    · rename_i c
      obtain ⟨c1, c3⟩ := and_ok c
      obtain ⟨c1, c2⟩ := and_ok c1
      obtain ⟨h1, h2⟩ := tyTab_ok _ (lookup_mem h)
      obtain ⟨p1, _, p3⟩ := plainN_ok c2
      exact ⟨h1, rfl, pe_bltn (g.gl' c1) (g.free _ (has_ok c3)) h2 rfl p3 p1⟩
    · cases h
  | _ => simp [Sc.ty] at h
def Sc.tys (sc : Sc) : List Expr → Option (List Ty)
  | [] => some []
  | e :: es => (sc.ty e).bind fun t => (sc.tys es).map (t :: ·)
theorem tys_ok (g : Gd M W Fx X C sc) : ∀ {es : List Expr} {ts : List Ty}, sc.tys es = some ts → ts.all tyOk = true ∧ PA X es (tTys ts)
  | [], ts, h => by cases h; exact ⟨rfl, pa_nil⟩
  | e :: es, ts, h => by
    obtain ⟨t, h1, h2⟩ := Option.bind_eq_some_iff.mp (show (sc.ty e).bind _ = some ts from h)
    obtain ⟨ts', h3, rfl⟩ := Option.map_eq_some_iff.mp h2
    obtain ⟨a1, a2, a3⟩ := ty_ok g h1
    obtain ⟨b1, b2⟩ := tys_ok g h3
    exact ⟨by rw [List.all_cons, a1, b1]; rfl, pa_cons a3 b2 (star_no a2)⟩
/-- the class of errors that an expression names: what is below it, what is not -/
def Sc.exT (sc : Sc) : Expr → Option (List Str × List Str)
  | .Name x _ => if isGlo (sc.names.lookup x) && plainN x && isX sc.exs sc.xb x then some ((sc.exs.map (·.1)).filter (catB sc.xb · x), (sc.exs.map (·.1)).filter fun n => !catB sc.xb n x) else
      if isGlo (sc.names.lookup x) && plainN x && sc.free.contains x && (x == ("ValueError" : Str)) && !sc.exs.isEmpty then some (sc.exs.map (·.1), []) else none
  | _ => none
theorem exT_ok (g : Gd M W Fx X C sc) {a e : Expr} {p q : Pos} {m : Ex} {l : List Str × List Str} (hl : sc.exT e = some l) (hg : isGlo (sc.names.lookup ("isinstance" : Str)) = true) (hm : sc.free.contains ("isinstance" : Str) = true) (ha : EOk M W Fx X C a m) (c : notStar a = true) :
    EOk M W Fx X C (.Call (.Name "isinstance" p) [a, e] [] q) (cIsX l.1 l.2 m) := by
  have hm' := g.free _ (has_ok hm)
  cases e with
  | Name x px =>
    have mem : ∀ {n : Str} {P : Str → Bool}, n ∈ (sc.exs.map (·.1)).filter P → ∃ p ∈ sc.exs, p.1 = n ∧ P n = true := fun {n P} h => by
      obtain ⟨h1, h2⟩ := List.mem_filter.mp h
      obtain ⟨p, hp, e⟩ := List.mem_map.mp h1
      exact ⟨p, hp, e, h2⟩
    simp only [Sc.exT] at hl
    have hs2 : starEach [Expr.Name x px] X.env = (false, eval (Expr.Name x px) X.env) :: starEach [] X.env := rfl
    have hb : (backTo q (starEach [Expr.Name x px] X.env)).any (·.1) = false := back_plain (by rfl)
    split at hl
    · rename_i h
      obtain ⟨h, h3⟩ := and_ok h
      obtain ⟨h1, h2⟩ := and_ok h
      cases hl
      refine sd_isX (K := X.K) (c := .ref (He.ga X.K x)) (cv := .ref (He.ga X.K x)) g.hK.symm rfl (g.gl' hg) hm' (fun u r => r) (pe_glob (g.gl' h1) (g.exf.mgx h3) rfl (plainN_ok h2).1) (fun nm hn => ?_) (fun nm hn => ?_) ha (star_no c) hs2 hb
      · obtain ⟨p, hp, rfl, hc⟩ := mem hn
        refine ⟨(g.exf.one p hp).2.2.1, ?_⟩
        rw [(g.exf.cat p hp x h3).2, hc]
      · obtain ⟨p, hp, rfl, hc⟩ := mem hn
        refine ⟨(g.exf.one p hp).2.2.1, ?_⟩
        rw [(g.exf.cat p hp x h3).2, show catB sc.xb p.1 x = false by simpa using hc]
    · split at hl
      · rename_i h
        obtain ⟨h, h5⟩ := and_ok h
        obtain ⟨h, h4⟩ := and_ok h
        obtain ⟨h, h3⟩ := and_ok h
        obtain ⟨h1, h2⟩ := and_ok h
        cases hl
        have e := eq_of_beq h4
        subst e
        obtain ⟨p1, _, p3⟩ := plainN_ok h2
        refine sd_isX (K := X.K) (c := .ty "ValueError") (cv := .type "ValueError") g.hK.symm rfl (g.gl' hg) hm' (fun u r => r) (pe_bltn (g.gl' h1) (g.free _ (has_ok h3)) rfl rfl p3 p1) (fun nm hn => ?_) (fun nm hn => by cases hn) ha (star_no c) hs2 hb
        obtain ⟨p, hp, rfl⟩ := List.mem_map.mp hn
        exact ⟨(g.exf.one p hp).2.2.1, g.exf.vE p hp⟩
      · cases hl
  | _ => simp [Sc.exT] at hl
def eIsi (f : Expr → Ex) (sc : Sc) : List Expr → Ex
  | [a, .Tuple es _ _] => gdD (notStar a) (orD (sc.tys es) (fun ts => gdD (decide (ts.length ≤ 10)) (orD (sc.ovar a) (cIsiV ts) (cIsi ts (f a))) cNo) cNo) cNo
  | [a, b] => gdD (notStar a) (orD (sc.exT b) (fun l => cIsX l.1 l.2 (f a)) (orD (sc.ty b) (fun t => orD (sc.ovar a) (cIsiV [t]) (cIsi [t] (f a))) cNo)) cNo
  | _ => cNo
theorem eIsi_ok (g : Gd M W Fx X C sc) (h : ∀ e, EOk M W Fx X C e (f e)) {es : List Expr} {p q : Pos} (hg : isGlo (sc.names.lookup ("isinstance" : Str)) = true) (hm : sc.free.contains ("isinstance" : Str) = true) :
    EOk M W Fx X C (.Call (.Name "isinstance" p) es [] q) (eIsi f sc es) := by
  have hm' := g.free _ (has_ok hm)
  have boot : bootBuiltins "isinstance" = some (.builtin "isinstance") := rfl
  unfold eIsi
  split
  · rename_i a es k p'
    refine gdD_ok (fun c => orD_ok (fun ts ht => gdD_ok (fun hz => ?_) pe_no) pe_no) pe_no
    obtain ⟨t1, t2⟩ := tys_ok g ht
    have hz := of_decide_eq_true hz
    refine orD_ok (fun i hi => ?_) ?_
    · exact sd_isiNV hz (pe_callB (call_isiN g.hK t1) (g.gl' hg) hm' boot (pa_cons (ovar_ok g hi).v (pa_cons (pe_tup t2) pa_nil) (star_no c)) (by decide) (by decide) (star_no c))
    · exact sd_isiN hz (h a) fun ha => pe_callB (call_isiN g.hK t1) (g.gl' hg) hm' boot (pa_cons ha (pa_cons (pe_tup t2) pa_nil) (star_no c)) (by decide) (by decide) (star_no c)
  · rename_i a b _
    refine gdD_ok (fun c => orD_ok (fun l hl => exT_ok g hl hg hm (h a) c) (orD_ok (fun t ht => ?_) pe_no)) pe_no
    obtain ⟨t1, t3, t2⟩ := ty_ok g ht
    have hb : (backTo q (starEach [b] X.env)).any (·.1) = false := back_plain (by rw [List.all_cons, t3]; rfl)
    refine orD_ok (fun i hi => ?_) ?_
    · exact sd_isi1V (pe_callB (call_isi1 (xs := []) g.hK t1) (g.gl' hg) hm' boot (pa_cons (ovar_ok g hi).v (pa_cons t2 pa_nil (star_no t3)) (star_no c)) (by decide) (by decide) (star_no c) hb)
    · exact sd_isi1 (b := b) (h a) fun ha => pe_callB (call_isi1 (xs := []) g.hK t1) (g.gl' hg) hm' boot (pa_cons ha (pa_cons t2 pa_nil (star_no t3)) (star_no c)) (by decide) (by decide) (star_no c) hb
  · exact pe_no

/-! ### methods -/
def notSuper : Expr → Bool
  | .Call (.Name _ _) [] [] _ => false
  | _ => true
theorem notSuper_ok {o : Expr} {nm : Str} {env : PySem.Env} {w : Sem Value} (h : notSuper o = true) : attributeBase o nm env w = w := by
  unfold attributeBase
  split
  · cases h
  · rfl
def mbTab : List (Str × MB) := [("split", .split), ("join", .join), ("index", .index)]
theorem pe_mbCall {m : MB} {nm : Str} {o e : Expr} {es : List Expr} {to : TE} {t : TA} {ap q : Pos} (g : Gd M W Fx X C sc) (hm : mbTab.lookup nm = some m) (ho : PE X o to) (hs : (e :: es).all notStar = true) (ha : PA X (e :: es) t) (hn : notSuper o = true)
    (hz : decide ((e :: es).length < 30) = true) (hl : (ap.endLine == q.line) = true) : PE X (.Call (.Attribute o nm ap) (e :: es) [] q) (tBM X.K (mbT m) (MetD M Fx (mbD m)) to t) := by
  have hs' := hs
  rw [List.all_cons, Bool.and_eq_true] at hs'
  have s1 := star_no (es := es) (env := X.env) hs'.1
  have s2 := back_plain (p := q) (env := X.env) hs'.2
  have few : ((backTo q (starEach (e :: es) X.env)).all (fun x => !x.1) && (backToKw q (keywordEach [] X.env)).all (fun x => x.1.isSome)
      && decide ((e :: es).length + ([] : List Keyword).length + (if ([] : List Keyword).isEmpty then 0 else 1) < 30)) = true := by
    rw [back_all hs]
    exact hz
  have hb := notSuper_ok (nm := nm) (env := X.env) (w := eval o X.env) hn
  have hr := mr_mb (Fx := Fx) g.hK m
  have mem := lookup_mem hm
  simp only [mbTab, List.mem_cons, List.not_mem_nil, or_false, Prod.mk.injEq] at mem
  rcases mem with ⟨rfl, rfl⟩ | ⟨rfl, rfl⟩ | ⟨rfl, rfl⟩
  · exact pe_bm F.plainAttrs_str F.slot_str_split F.type_str_split hr ho ha hb few hl s1 s2
  · exact pe_bm F.plainAttrs_str F.slot_str_join F.type_str_join hr ho ha hb few hl s1 s2
  · exact pe_bm F.plainAttrs_list F.slot_list_index F.type_list_index hr ho ha hb few hl s1 s2
def eMb (f : Expr → Ex) (sc : Sc) (o : Expr) (nm : Str) (ap : Pos) (es : List Expr) (q : Pos) : Ex :=
  orD (mbTab.lookup nm) (fun m => gdD (!es.isEmpty && es.all notStar && notSuper o && decide (es.length < 30) && (ap.endLine == q.line)) (orD (sc.ovar o) (fun i => cMbV m i (es.map f)) (cMb m (f o) (es.map f))) cNo) cNo
theorem eMb_ok (g : Gd M W Fx X C sc) (h : ∀ e, EOk M W Fx X C e (f e)) {o : Expr} {nm : Str} {ap q : Pos} {es : List Expr} : EOk M W Fx X C (.Call (.Attribute o nm ap) es [] q) (eMb f sc o nm ap es q) :=
  orD_ok (fun m hm => gdD_ok (fun c => by
    obtain ⟨c, c5⟩ := and_ok c
    obtain ⟨c, c4⟩ := and_ok c
    obtain ⟨c, c3⟩ := and_ok c
    obtain ⟨c1, c2⟩ := and_ok c
    match es, c1 with
    | e :: es, _ =>
      exact orD_ok (fun i hi => sd_mbV g.hK (ovar_ok g hi).v (evs_ok h c2) fun ho ha => pe_mbCall g hm ho c2 ha c3 c4 c5) (sd_mb g.hK (h o) (evs_ok h c2) fun ho ha => pe_mbCall g hm ho c2 ha c3 c4 c5)) pe_no) pe_no

/-- l.pop(k) -/
def ePop (f : Expr → Ex) (sc : Sc) (o : Expr) (ap : Pos) (es : List Expr) (q : Pos) : Ex := match es with
  | [a] => orD (sc.var o) (fun i => gdD (notStar a && (ap.endLine == q.line)) (cPop i (f a)) cNo) cNo
  | _ => cNo
theorem ePop_ok (g : Gd M W Fx X C sc) (h : ∀ e, EOk M W Fx X C e (f e)) {o : Expr} {ap q : Pos} {es : List Expr} : EOk M W Fx X C (.Call (.Attribute o "pop" ap) es [] q) (ePop f sc o ap es q) := by
  unfold ePop
  split
  · rename_i a
    refine orD_ok (fun i hi => gdD_ok (fun c => ?_) pe_no) pe_no
    obtain ⟨c1, c2⟩ := and_ok c
    have v := var_ok g hi
    have hs : notSuper o = true := by
      obtain ⟨x, p, rfl, _⟩ := v.go
      rfl
    have hA : [a].all notStar = true := by rw [List.all_cons, c1]; rfl
    exact sd_pop (o := o) (ix := a) g.hK (pe_bm F.plainAttrs_list F.slot_list_pop F.type_list_pop mt_popAt v.v (pa_cons (h a) pa_nil (star_no c1)) (notSuper_ok hs)
      (by rw [back_all hA]; rfl) c2 (star_no c1) (back_plain (es := []) rfl))
  · exact pe_no
/-! ### a call -/
def eAtt (f : Expr → Ex) (sc : Sc) (e : Expr) (nm : Str) : Ex := gdD (notSuper e) (orD (sc.at_.lookup nm) (fun a => match a with
  | .fld c k => cFld c k (f e)
  | .prp c fi => cPrp c fi (f e)
  | .xfl => cXf sc.exs nm (f e)
  | .mth _ _ _ => cNo) cNo) cNo
theorem eAtt_ok (g : Gd M W Fx X C sc) (h : ∀ e, EOk M W Fx X C e (f e)) {e : Expr} {nm : Str} {p : Pos} : EOk M W Fx X C (.Attribute e nm p) (eAtt f sc e nm) :=
  gdD_ok (fun c => orD_ok (fun a ha => by
    have z := g.at_ _ _ ha
    cases a with
    | fld c' k =>
      obtain ⟨z1, q, z2⟩ := z
      exact sd_fld g.hK z1 z2 (h e) (notSuper_ok c)
    | prp c' fi =>
      obtain ⟨z1, q, ga, n, z2, z3, z4, z5, z6, z7⟩ := z
      exact sd_prp g.hK z1 z2 z3 z4 z5 z6 z7 (fun _ _ _ _ y => cx_noS y) (h e) (notSuper_ok c)
    | xfl => exact sd_xf (K := X.K) g.hK.symm rfl (fun p hp => ⟨(g.exf.one p hp).2.1, (g.exf.one p hp).2.2.2.1⟩) (h e) (notSuper_ok c)
    | mth _ _ _ => exact pe_no) pe_no) pe_no
def eCall (f : Expr → Ex) (sc : Sc) (fn : Expr) (es : List Expr) (kws : List Keyword) (q : Pos) : Ex := match fn, kws with
  | .Name x _, [] => gdD (isGlo (sc.names.lookup x) && plainN x) (orD (sc.defs.lookup x) (fun d => eCall1 f sc d es)
      (orD (sc.ctr.lookup x) (fun d => eNew (fun e => cVal (f e)) sc d es) (gdD (sc.free.contains x) (gdD (x == ("isinstance" : Str)) (eIsi f sc es) (orD (sc.ss es) (fun a => gdD (x == ("sorted" : Str)) (cSs (f a)) cNo) (orD (sc.zp es) (fun ab => gdD (x == ("list" : Str)) (cLz (f ab.1) (f ab.2)) cNo) (orD (sc.rg es) (fun as => gdD (x == ("list" : Str)) (eRg f false as) (gdD (x == ("tuple" : Str)) (eRg f true as) cNo)) (orD (biTab.lookup x) (fun b => eBi f sc b es) cNo))))) cNo))) cNo
  | .Name x _, kws => gdD (isGlo (sc.names.lookup x) && plainN x) (orD (sc.defs.lookup x) (fun d => eCallK f sc d es kws) cNo) cNo
  | .Attribute o nm ap, [] => gdD (nm == ("pop" : Str)) (ePop f sc o ap es q) (eMb f sc o nm ap es q)
  | _, _ => cNo
theorem eCall_ok (g : Gd M W Fx X C sc) (h : ∀ e, EOk M W Fx X C e (f e)) {fn : Expr} {es : List Expr} {kws : List Keyword} {q : Pos} : EOk M W Fx X C (.Call fn es kws q) (eCall f sc fn es kws q) := by
  unfold eCall
  split
  · rename_i x p
    refine gdD_ok (fun c => orD_ok (fun d hd => eCall1_ok g h hd (and_ok c).1 (and_ok c).2) (orD_ok (fun d hd => eNew_ok g (fun e => sd_cVal (h e)) hd (and_ok c).1 (and_ok c).2) (gdD_ok (fun hf => gdD_ok (fun hx => ?_) (orD_ok (fun a ha => gdD_ok (fun hl => by obtain rfl := eq_of_beq hl; exact ss_ok g h ha (and_ok c).1 hf) pe_no) (orD_ok (fun ab hab => gdD_ok (fun hl => by obtain rfl := eq_of_beq hl; exact zp_ok g h hab (and_ok c).1 hf) pe_no) (orD_ok (fun as ha => gdD_ok (fun hl => rg_ok g h ha (eq_of_beq hl) (and_ok c).1 hf) (gdD_ok (fun hl => rg_ok g h ha (eq_of_beq hl) (and_ok c).1 hf) pe_no)) (orD_ok (fun b hb => eBi_ok g h hb (and_ok c).1 hf (and_ok c).2) pe_no))))) pe_no))) pe_no
    obtain rfl := eq_of_beq hx
    exact eIsi_ok g h (and_ok c).1 hf
  · exact gdD_ok (fun c => orD_ok (fun d hd => eCallK_ok g h hd (and_ok c).1 (and_ok c).2) pe_no) pe_no
  · exact gdD_ok (fun hl => by obtain rfl := eq_of_beq hl; exact ePop_ok g h) (eMb_ok g h)
  · exact pe_no
end
end Ev
end
section
set_option linter.all false
set_option maxRecDepth 100000
set_option maxHeartbeats 2000000
/-! what the texts become, 4: targets, what is walked, list comprehensions, all expressions -/
namespace Ev
open PySem L2

/-! ### targets -/
def isLoc : Option NameKind → Bool
  | some .local => true
  | _ => false
theorem loc_ok {o : Option NameKind} (h : isLoc o = true) : o = some .local := by
  unfold isLoc at h
  split at h
  · rfl
  · cases h
def isCell : Option NameKind → Bool
  | some .cell => true
  | _ => false
theorem cell_ok {o : Option NameKind} (h : isCell o = true) : o = some .cell := by
  unfold isCell at h
  split at h
  · rfl
  · cases h
def Sc.st (sc : Sc) (x : Str) : Option Nat := gdD (isLoc (sc.names.lookup x) || (isCell (sc.names.lookup x) && sc.cel.contains x)) (match slotOf sc.N x 0 with
  | some i => if sc.rp[i]? == some true then none else some i
  | none => none) none
structure StOk (Fx : Nat → Prop) (X : Cx) (x : Str) (i : Nat) : Prop where
  ix : X.N[i]? = some x
  loc : Loc X.env.scope x
  fn : X.fn x = true ∨ X.env.scope.names.lookup x = some .local
  fx : ¬ Fx i
section
variable {M : Mdl} {W : WX} {Fx : Nat → Prop} {X : Cx} {C : Ctx} {sc : Sc} {pos : Pos} {f : Expr → Ex}
theorem st_ok (g : Gd M W Fx X C sc) {x : Str} {i : Nat} (h : sc.st x = some i) : StOk Fx X x i := by
  have key : (isLoc (sc.names.lookup x) || (isCell (sc.names.lookup x) && sc.cel.contains x)) = true ∧ slotOf sc.N x 0 = some i ∧ sc.rp[i]? ≠ some true := by
    unfold Sc.st at h
    generalize hb : (isLoc (sc.names.lookup x) || (isCell (sc.names.lookup x) && sc.cel.contains x)) = b at h
    cases b with
    | false => cases h
    | true =>
      have h : (match slotOf sc.N x 0 with
        | some i => if sc.rp[i]? == some true then none else some i
        | none => none) = some i := h
      split at h
      · rename_i j hj
        split at h
        · cases h
        · rename_i hne
          cases h
          exact ⟨rfl, hj, fun z => hne (by rw [z]; rfl)⟩
      · cases h
  obtain ⟨h1, h2, h3⟩ := key
  rw [Bool.or_eq_true] at h1
  refine ⟨slot_ok g h2, ?_, ?_, g.fx i h3⟩
  · rcases h1 with h1 | h1
    · exact .inl (by rw [g.nm]; exact loc_ok h1)
    · exact .inr (by rw [g.nm]; exact cell_ok (and_ok h1).1)
  · rcases h1 with h1 | h1
    · exact .inr (by rw [g.nm]; exact loc_ok h1)
    · exact .inl (g.fn x (has_ok (and_ok h1).2))
def mapO {α β : Type} (f : α → Option β) : List α → Option (List β)
  | [] => some []
  | a :: as => (f a).bind fun b => (mapO f as).map (b :: ·)
def eTg (sc : Sc) : Nat → Expr → Option MT
  | 0, _ => none
  | _ + 1, .Name x _ => (sc.st x).map .nm
  | n + 1, .Tuple es _ _ => if es.all notStar then (mapO (eTg sc n) es).map .tp else none
  | _ + 1, _ => none
theorem asg_star {e : Expr} {es : List Expr} {env : PySem.Env} (h : notStar e = true) : assignEach (e :: es) env = (false, PySem.assign e env) :: assignEach es env := by
  cases e <;> first | rfl | cases h
theorem asg_len {env : PySem.Env} : ∀ {es : List Expr}, es.all notStar = true → (assignEach es env).length = es.length ∧ (assignEach es env).findIdx? (·.1) = none
  | [], _ => ⟨rfl, rfl⟩
  | e :: es, h => by
    rw [List.all_cons, Bool.and_eq_true] at h
    obtain ⟨h1, h2⟩ := asg_len (env := env) h.2
    rw [asg_star h.1]
    refine ⟨congrArg Nat.succ h1, ?_⟩
    rw [List.findIdx?_cons, if_neg (by simp), h2]; rfl
theorem mapO_len {α β : Type} {f : α → Option β} : ∀ {as : List α} {bs : List β}, mapO f as = some bs → bs.length = as.length
  | [], _, h => by cases h; rfl
  | a :: as, _, h => by
    obtain ⟨b, _, h⟩ := Option.bind_eq_some_iff.mp (show (f a).bind _ = some _ from h)
    obtain ⟨bs, h2, rfl⟩ := Option.map_eq_some_iff.mp h
    exact congrArg Nat.succ (mapO_len h2)
theorem tgs_ok {h : Expr → Option MT} (ih : ∀ e t, h e = some t → PG X e (GvR M Fx t)) : ∀ {es : List Expr} {ts : List MT}, es.all notStar = true → mapO h es = some ts → PGs X es (GsR M Fx ts)
  | [], _, _, q => by cases q; exact gs_nil
  | e :: es, _, hs, q => by
    rw [List.all_cons, Bool.and_eq_true] at hs
    obtain ⟨b, h1, q⟩ := Option.bind_eq_some_iff.mp (show (h e).bind _ = some _ from q)
    obtain ⟨bs, h2, rfl⟩ := Option.map_eq_some_iff.mp q
    exact gs_cons (ih _ _ h1) (tgs_ok ih hs.2 h2) (by rw [asg_star hs.1]; rfl)
theorem tg_ok (g : Gd M W Fx X C sc) : ∀ {n : Nat} {e : Expr} {t : MT}, eTg sc n e = some t → PG X e (GvR M Fx t)
  | 0, _, _, h => by cases h
  | n + 1, e, t, h => by
    unfold eTg at h
    split at h
    · cases ‹_ + 1 = _›
    · obtain ⟨i, h1, rfl⟩ := Option.map_eq_some_iff.mp h
      have s := st_ok g h1
      exact g_nm g.nd s.ix s.loc s.fn s.fx
    · rename_i m es k p hm
      cases hm
      split at h
      · rename_i c
        obtain ⟨ts, h1, rfl⟩ := Option.map_eq_some_iff.mp h
        obtain ⟨a1, a2⟩ := asg_len (env := X.env) c
        exact g_tp g.hK g.calm (tgs_ok (fun e t q => tg_ok g q) c h1) (by rw [a1, mapO_len h1]) a2
      · cases h
    · cases h

/-! ### what is walked -/
theorem fold_no {e : Expr} {env : PySem.Env} (h : notSet e = true) : ∀ x, foldedSetIterable e env x = pure x := by
  cases e <;> first | (intro _; rfl) | cases h
def isTup : Expr → Bool
  | .Tuple .. => true
  | _ => false
def eRng (f : Expr → Ex) : List Expr → Ix
  | [a] => gdD (notStar a) (iRng1 (f a)) iNo
  | [a, b] => gdD (notStar a && notStar b) (iRng2 (f a) (f b)) iNo
  | _ => iNo
def eZip (f : Expr → Ex) : List Expr → Ix
  | [a, b] => gdD (notStar a && notStar b) (iZip (f a) (f b)) iNo
  | _ => iNo
def eEnm (f : Expr → Ex) : List Expr → Ix
  | [a] => gdD (notStar a) (iEnm (f a)) iNo
  | _ => iNo
def eIt (f : Expr → Ex) (sc : Sc) (tg : Expr) (it : Expr) : Ix := match it with
  | .Call (.Name x _) es [] _ => gdD (isGlo (sc.names.lookup x) && sc.free.contains x && (x == ("range" : Str))) (eRng f es)
      (gdD (isGlo (sc.names.lookup x) && sc.free.contains x && (x == ("zip" : Str)) && isTup tg) (eZip f es)
        (gdD (isGlo (sc.names.lookup x) && sc.free.contains x && (x == ("enumerate" : Str)) && isTup tg) (eEnm f es) (iIt (f it))))
  | _ => iIt (f it)
theorem star1 {a : Expr} {env : PySem.Env} (h : notStar a = true) : starEach [a] env = [(false, eval a env)] := star_no h
theorem eIt_ok (g : Gd M W Fx X C sc) (h : ∀ e, EOk M W Fx X C e (f e)) {tg it : Expr} : IOk M W Fx X C tg it (eIt f sc tg it) := by
  unfold eIt
  split
  · rename_i x p es q
    refine gdD_ok (fun c => ?_) (gdD_ok (fun c => ?_) (gdD_ok (fun c => ?_) (i_it g.hK (h _))))
    · obtain ⟨c, c3⟩ := and_ok c
      obtain ⟨c1, c2⟩ := and_ok c
      obtain rfl := eq_of_beq c3
      unfold eRng
      split
      · exact gdD_ok (fun s => i_rng1 (g.gl' c1) (g.free _ (has_ok c2)) (h _) (star1 s)) pi_no
      · refine gdD_ok (fun s => i_rng2 (g.gl' c1) (g.free _ (has_ok c2)) (h _) (h _) ?_ (star1 (and_ok s).2)) pi_no
        rw [star_no (and_ok s).1, star1 (and_ok s).2]
      · exact pi_no
    · obtain ⟨c, c4⟩ := and_ok c
      obtain ⟨c, c3⟩ := and_ok c
      obtain ⟨c1, c2⟩ := and_ok c
      obtain rfl := eq_of_beq c3
      cases tg <;> first | cases c4 | skip
      unfold eZip
      split
      · exact gdD_ok (fun s => i_zip g.hK (g.gl' c1) (g.free _ (has_ok c2)) (h _) (h _) (star_no (and_ok s).1) (star1 (and_ok s).2)) pi_no
      · exact pi_no
    · obtain ⟨c, c4⟩ := and_ok c
      obtain ⟨c, c3⟩ := and_ok c
      obtain ⟨c1, c2⟩ := and_ok c
      obtain rfl := eq_of_beq c3
      cases tg <;> first | cases c4 | skip
      unfold eEnm
      split
      · exact gdD_ok (fun s => i_enm g.hK (g.gl' c1) (g.free _ (has_ok c2)) (h _) (star1 s)) pi_no
      · exact pi_no
  · exact i_it g.hK (h _)

/-! ### list comprehensions -/
def owns (N : List Str) : List (Str × NameKind) → List (Str × Nat)
  | [] => []
  | (x, k) :: r => match k, slotOf N x 0 with
    | .local, some i => (x, i) :: owns N r
    | .cell, some i => (x, i) :: owns N r
    | _, _ => owns N r
def relN (sc : Sc) (l : List (Str × NameKind)) : List (Str × NameKind) := l.map fun (n, k) => if (k == .free && sc.names.lookup n == some .cell) then (n, .cell) else (n, k)
def Sc.blk (sc : Sc) (scope : Scope) : Sc := { sc with names := relN sc scope.names, cel := (scope.names.map (·.1)).filter fun x => scope.names.lookup x == some .cell, stm := false }
def scp (names : List (Str × NameKind)) : Scope := ⟨.function, names, false, false, []⟩
theorem blk_ok (g : Gd M W Fx X C sc) {scope : Scope} {own : List (Str × Nat)} (h : blkC sc.N (scp sc.names) scope own = true) : BlkOk X.N X.env.scope scope own := by
  have b := blkOk_by h
  exact ⟨b.kind, b.uniq, by rw [g.hN]; exact b.ix, fun y hy e => by rw [g.nm]; exact b.free y hy e, by rw [g.hN]; exact b.own⟩
theorem Gd.blk (g : Gd M W Fx X C sc) {scope : Scope} (hk : scope.kind = .function) (s : Shared) (H : Hp) (A : Addr) (cl : List (Str × Addr)) (fp : List Addr) : Gd M WN Top (X.blk s H scope (compEnvC scope cl A X.env) fp) C (sc.blk scope) where
  hK := g.hK
  hN := g.hN
  nm := by
    show scope.names.map _ = scope.names.map _
    refine List.map_congr_left fun p _ => ?_
    obtain ⟨n, k⟩ := p
    show (if (k == .free && X.env.scope.kind == .function && X.env.scope.names.lookup n == some .cell) = true then _ else _) = _
    rw [g.kd, g.nm]
    simp
  kd := hk
  nd := g.nd
  calm := g.calm
  tk := fun u s' ⟨_, _, _, _, _, _, _, _, _, _, _, _, _, _, _, _, w⟩ => w
  fx := fun _ _ z => z
  fn := fun x hx => (List.mem_filter.mp hx).2
  un := g.un
  defs := fun x d h => ⟨(g.defs x d h).go⟩
  gl := g.gl
  free := g.free
  at_ := fun f a h => by
    have z := g.at_ f a h
    cases a <;> exact z
  ctr := fun x d h => ⟨(g.ctr x d h).go⟩
  mx := g.mx
  exf := g.exf
  exi := fun h => by cases h
  stk := fun h => by cases h

def eIf (t : Expr → Tx) : List Expr → Option (Option Tx)
  | [] => some none
  | [c] => some (some (t c))
  | _ => none
def eLc (fE : Sc → Expr → Ex) (fT : Sc → Expr → Tx) (sc : Sc) (elt : Expr) (gens : List Comprehension) (scope : Scope) : Ex := match gens with
  | [⟨tg, it, ifs, 0⟩] => gdD (blkC sc.N (scp sc.names) scope (owns sc.N scope.names) && notSet it)
      (orD (eTg (sc.blk scope) 4 tg) (fun t => gdD ((mtN t).all ((owns sc.N scope.names).map (·.2)).contains) (orD (eIf (fT (sc.blk scope)) ifs)
        (fun c => cLc (fE (sc.blk scope) elt) t (eIt (fE sc) sc tg it) c ((owns sc.N scope.names).map (·.2))) cNo) cNo) cNo) cNo
  | _ => cNo
/-- what is promised of the functions for smaller texts -/
def RecOk (M : Mdl) (C : Ctx) (fE : Sc → Expr → Ex) (fT : Sc → Expr → Tx) : Prop :=
  ∀ (sc : Sc) (W : WX) (Fx : Nat → Prop) (X : Cx), Gd M W Fx X C sc → (∀ e, EOk M W Fx X C e (fE sc e)) ∧ ∀ e, TOk M W Fx X C e (fT sc e)
/-- a list comprehension: as a value; for a name on the same line -/
structure LcOk (M : Mdl) (W : WX) (Fx : Nat → Prop) (X : Cx) (C : Ctx) (sc : Sc) (elt : Expr) (gens : List Comprehension) (scope : Scope) (p : Pos) (m : Ex) : Prop where
  e : EOk M W Fx X C (.ListComp elt gens scope p) m
  s : ∀ {i : Nat} {y : Str} {py sp : Pos} {own : Bool}, X.N[i]? = some y → X.env.scope.names.lookup y = some .local → swapsWith (.ListComp elt gens scope p) (some (.Name y py)) sp.line X.env = pure true → ¬ Fx i →
    SOk M W Fx X C (.Assign [.Name y py] (.ListComp elt gens scope p) sp) (sAsg i m own)
theorem lc_no {elt : Expr} {gens : List Comprehension} {scope : Scope} {p : Pos} : LcOk M W Fx X C sc elt gens scope p cNo where
  e := pe_no
  s := fun _ _ _ _ => ⟨fun _ _ _ _ _ _ ⟨_, _, _, h⟩ => h.elim⟩
theorem eIf_ok (g : Gd M W Fx X C sc) {fE : Sc → Expr → Ex} {fT : Sc → Expr → Tx} (r : RecOk M C fE fT) {scope : Scope} (hk : scope.kind = .function) {ifs : List Expr} {c : Option Tx} (h : eIf (fT (sc.blk scope)) ifs = some c) :
    ∃ tt : TT, (∀ (s : Shared) (H : Hp) (A : Addr) (cl : List (Str × Addr)) (fp : List Addr), PTs (X.blk s H scope (compEnvC scope cl A X.env) fp) ifs tt) ∧
      ∀ σ H Q, (∃ B env, EnvOk M.K B H σ env ∧ RRun (evC C c env) (fun b env' => ∀ H', EnvOk M.K B H' σ env' → Step Top σ env H σ env' H' → Q b H') (XQ M WN B Top σ env H)) → tt σ H Q := by
  unfold eIf at h
  split at h
  · cases h
    exact ⟨tYes, fun _ _ _ _ _ => pts_nil, fun σ H Q ⟨B, env, ok, q⟩ => q H ok Step.refl⟩
  · cases h
    rename_i e
    exact ⟨TvR M WN Top (fT (sc.blk scope) e C), fun s H A cl fp => pts_one ((r _ _ _ _ (g.blk hk s H A cl fp)).2 e), fun σ H Q q => q⟩
  · cases h
theorem eLc_ok (g : Gd M W Fx X C sc) {fE : Sc → Expr → Ex} {fT : Sc → Expr → Tx} (r : RecOk M C fE fT) {elt : Expr} {gens : List Comprehension} {scope : Scope} {p : Pos} : LcOk M W Fx X C sc elt gens scope p (eLc fE fT sc elt gens scope) := by
  unfold eLc
  split
  · rename_i tg it ifs
    refine gdD_ok (fun c => orD_ok (fun t ht => gdD_ok (fun hv => orD_ok (fun c' hc => ?_) lc_no) lc_no) lc_no) lc_no
    obtain ⟨c1, c2⟩ := and_ok c
    have ok := blk_ok g c1
    have hm : ∀ j ∈ mtN t, j ∈ (owns sc.N scope.names).map (·.2) := fun j hj => List.contains_iff_mem.mp (List.all_eq_true.mp hv j hj)
    obtain ⟨tt, h1, h2⟩ := eIf_ok g r ok.kind hc
    have hi := eIt_ok g (r _ _ _ _ g).1 (tg := tg) (it := it)
    have hg : ∀ (s : Shared) (H : Hp) (A : Addr) (cl : List (Str × Addr)) (fp : List Addr), PG (X.blk s H scope (compEnvC scope cl A X.env) fp) tg (GvR M Top t) := fun s H A cl fp => tg_ok (g.blk ok.kind s H A cl fp) ht
    have he : ∀ (s : Shared) (H : Hp) (A : Addr) (cl : List (Str × Addr)) (fp : List Addr), PE (X.blk s H scope (compEnvC scope cl A X.env) fp) elt (EvR M WN Top (fE (sc.blk scope) elt C)) := fun s H A cl fp => (r _ _ _ _ (g.blk ok.kind s H A cl fp)).1 elt
    refine ⟨pe_weak (pe_lc g.calm g.nd hi ok hg h1 he (fold_no c2)) (lc_read hm h2), fun hy hl hsw hF => ?_⟩
    exact ps_weak (ps_setLc g.calm g.nd hy hl hsw hi ok hg h1 he (fold_no c2)) (asg_read hF (lc_read hm h2))
  · exact lc_no

/-! ### all expressions -/
def stepE (fE : Sc → Expr → Ex) (fT : Sc → Expr → Tx) (sc : Sc) : Expr → Ex
  | .Constant c _ _ => eCon c
  | .Name x p => eName sc x p
  | .BinOp a op b _ => eBin (fE sc) sc a op b
  | .UnaryOp op a _ => eUn (fE sc) op a
  | .Compare a ops bs _ => eCmp (fE sc) sc a ops bs
  | .BoolOp op es _ => eBool (fE sc) op es
  | .IfExp c a b _ => cIte (fT sc c) (fE sc a) (fE sc b)
  | .List es _ => eLst (fE sc) sc es
  | .Tuple es _ _ => eTup (fE sc) sc es
  | .Call fn es kws q => eCall (fE sc) sc fn es kws q
  | .Subscript a s _ => eSub (fE sc) sc a s
  | .Attribute a nm _ => eAtt (fE sc) sc a nm
  | .JoinedStr es _ => eFst (fE sc) es
  | .ListComp elt gens scope _ => eLc fE fT sc elt gens scope
  | _ => cNo
mutual
def cE : Nat → Sc → Expr → Ex
  | 0, _, _ => cNo
  | n + 1, sc, e => stepE (cE n) (cT n) sc e
def cT : Nat → Sc → Expr → Tx
  | 0, _, _ => tNo
  | n + 1, sc, e => tAny (cE n sc) (cT n sc) sc e
end
theorem step_ok {fE : Sc → Expr → Ex} {fT : Sc → Expr → Tx} (r : RecOk M C fE fT) (g : Gd M W Fx X C sc) (e : Expr) : EOk M W Fx X C e (stepE fE fT sc e) := by
  obtain ⟨h, ht⟩ := r _ _ _ _ g
  unfold stepE
  split
  · exact eCon_ok
  · exact eName_ok g
  · exact eBin_ok g (h _) (h _)
  · exact eUn_ok g (h _)
  · exact (eCmp_ok g h).1
  · exact eBool_ok g h
  · exact sd_ite (ht _) (h _) (h _)
  · exact eLst_ok g h
  · exact eTup_ok g h
  · exact eCall_ok g h
  · exact eSub_ok g h
  · exact eAtt_ok g h
  · exact eFst_ok h
  · exact (eLc_ok g r).e
  · exact pe_no
theorem rec_ok : ∀ n, RecOk M C (cE n) (cT n)
  | 0 => fun sc W Fx X g => ⟨fun e => by unfold cE; exact pe_no, fun e => by unfold cT; exact pt_no⟩
  | n + 1 => fun sc W Fx X g => ⟨fun e => by unfold cE; exact step_ok (rec_ok n) g e, fun e => by
    unfold cT
    exact tAny_ok g (rec_ok n sc W Fx X g).1 (rec_ok n sc W Fx X g).2⟩
end
end Ev
end
section
set_option linter.all false
set_option maxRecDepth 100000
set_option maxHeartbeats 2000000
/-! what the texts become, 5: statements -/
namespace Ev
open PySem L2

def notComp : Expr → Bool
  | .ListComp .. => false
  | .SetComp .. => false
  | .DictComp .. => false
  | _ => true
section
variable {M : Mdl} {W : WX} {Fx : Nat → Prop} {X : Cx} {C : Ctx} {sc : Sc} {pos : Pos} {f : Expr → Ex}
theorem swaps_no {e : Expr} {o : Option Expr} {l : Nat} {env : PySem.Env} (h : notComp e = true) : swapsWith e o l env = pure false := by
  cases e <;> first | rfl | cases h
theorem Gd.blkF (g : Gd M W Fx X C sc) : X.env.blockKind = .function := by
  unfold Env.blockKind
  rw [g.kd]; rfl

/-! ### a name's new value -/
def swapLc (sc : Sc) (x : Str) (p : Pos) (e : Expr) : Bool := match e with
  | .ListComp _ _ scope q => isLoc (sc.names.lookup x) && p.line == q.line && !(scope.names.any fun (n, k) => n == x && (k == .local || k == .cell))
  | _ => false
theorem isLoc_beq {o : Option NameKind} : isLoc o = (o == some .local) := by
  cases o with
  | none => rfl
  | some k => cases k <;> rfl
theorem swapLc_ok (g : Gd M W Fx X C sc) {x : Str} {p : Pos} {elt : Expr} {gens : List Comprehension} {scope : Scope} {q : Pos} {l : Nat} :
    swapsWith (.ListComp elt gens scope q) (some (.Name x p)) l X.env = pure (swapLc sc x p (.ListComp elt gens scope q)) := by
  show (pure (X.env.blockKind == .function && X.env.scope.names.lookup x == some .local && p.line == q.line && !(scope.names.any fun (n, k) => n == x && (k == .local || k == .cell))) : Sem Bool) = _
  unfold swapLc
  rw [g.blkF, g.nm, isLoc_beq]
  rfl
def sAsgN (fE : Sc → Expr → Ex) (fT : Sc → Expr → Tx) (sc : Sc) (x : Str) (p : Pos) (e : Expr) : Sx := orD (sc.st x) (fun i => match e with
  | .ListComp elt gens scope _ => sAsg i (eLc fE fT sc elt gens scope) (sc.own.contains i)
  | e => gdD (notComp e) (sAsg i (fE sc e) (sc.own.contains i)) sNo) sNo
theorem sAsgN_ok (g : Gd M W Fx X C sc) {fE : Sc → Expr → Ex} {fT : Sc → Expr → Tx} (r : RecOk M C fE fT) {x : Str} {p : Pos} {e : Expr} {q : Pos} : SOk M W Fx X C (.Assign [.Name x p] e q) (sAsgN fE fT sc x p e) := by
  refine orD_ok (fun i hi => ?_) ps_no
  have s := st_ok g hi
  split
  · rename_i elt gens scope q'
    have lc := eLc_ok g r (elt := elt) (gens := gens) (scope := scope) (p := q')
    have hs := swapLc_ok g (x := x) (p := p) (elt := elt) (gens := gens) (scope := scope) (q := q') (l := q.line)
    cases hb : swapLc sc x p (.ListComp elt gens scope q') with
    | true =>
      rw [hb] at hs
      have hl : X.env.scope.names.lookup x = some .local := by
        unfold swapLc at hb
        rw [g.nm]
        exact loc_ok (and_ok (and_ok hb).1).1
      exact lc.s s.ix hl hs s.fx
    | false =>
      rw [hb] at hs
      exact s_asg g.nd s.ix s.loc s.fn s.fx hs lc.e
  · refine gdD_ok (fun c => ?_) ps_no
    exact s_asg g.nd s.ix s.loc s.fn s.fx (swaps_no c) ((r _ _ _ _ g).1 _)

/-! ### a tuple's names at once -/
def stars (es : List Expr) : Bool := es.any fun | .Starred .. => true | _ => false
def swapNms (names : List (Str × NameKind)) (ts : List Expr) : List Str := ts.filterMap fun
    | .Name id pos => if names.lookup id == some .local && pos.line == (ts.head?.map (·.pos.line)).getD 0 then some id else none
    | _ => none
def swapS (names : List (Str × NameKind)) (ts vs : List Expr) : Option (Option (List Str)) :=
  if !(ts.length == 2 || ts.length == 3) || vs.length != ts.length then some none else
  if stars vs then some none else
  if (swapNms names ts).length != ts.length || (swapNms names ts).eraseDups.length != (swapNms names ts).length then some none else
  if vs.all (foldedForSure 8) then some none else
  if vs.all (constantsAlone 8) then none else some (some (swapNms names ts))
theorem swapS_ok (g : Gd M W Fx X C sc) {ts vs : List Expr} {k k2} {p p2 : Pos} {o : Option (List Str)} (h : swapS sc.names ts vs = some o) : swappedStores [.Tuple ts k p] (.Tuple vs k2 p2) X.env = pure o := by
  unfold swappedStores
  unfold swapS at h
  simp only [g.blkF, Env.kindOf, g.nm]
  have e : (ScopeKind.function != ScopeKind.function) = false := rfl
  simp only [e, Bool.or_false]
  split at h
  · rename_i c
    cases h
    simp only [c, if_true]
  · rename_i c
    have c' := Bool.eq_false_iff.mpr c
    simp only [c', Bool.false_eq_true, if_false]
    split at h
    · rename_i d
      cases h
      exact if_pos d
    · rename_i d
      refine (if_neg d).trans ?_
      split at h
      · rename_i e1
        cases h
        exact if_pos e1
      · rename_i e1
        refine (if_neg e1).trans ?_
        split at h
        · rename_i e2
          cases h
          exact if_pos e2
        · rename_i e2
          refine (if_neg e2).trans ?_
          split at h
          · cases h
          · rename_i e3
            cases h
            exact if_neg e3
theorem vals_ok (h : ∀ e, EOk M W Fx X C e (f e)) : ∀ {es : List Expr}, es.all notStar = true → PA X es (AsR M W Fx ((es.map f).map .val) (evA C ((es.map f).map .val)))
  | [], _ => as_nil
  | e :: es, hs => by
    rw [List.all_cons, Bool.and_eq_true] at hs
    exact as_val (star_no hs.1) (h e) (vals_ok h hs.2)
/-- targets that are names -/
def Sc.sts (sc : Sc) : List Expr → Option (List Nat)
  | [] => some []
  | .Name x _ :: r => (sc.st x).bind fun i => (sc.sts r).map (i :: ·)
  | _ => none
theorem sts_ok (g : Gd M W Fx X C sc) : ∀ {ts : List Expr} {is : List Nat}, sc.sts ts = some is → PGs X ts (gNs is) ∧ ts.all notStar = true ∧ is.length = ts.length ∧ ∀ k ∈ is, ¬ Fx k
  | [], is, h => by cases h; exact ⟨pgs_nil, rfl, rfl, fun _ z => by cases z⟩
  | e :: r, is, h => by
    cases e with
    | Name x p =>
      obtain ⟨i, h1, h2⟩ := Option.bind_eq_some_iff.mp (show (sc.st x).bind _ = some is from h)
      obtain ⟨is', h3, rfl⟩ := Option.map_eq_some_iff.mp h2
      obtain ⟨a1, a2, a3, a4⟩ := sts_ok g h3
      have s := st_ok g h1
      refine ⟨pgs_cons (pg_name g.nd s.ix s.loc s.fn) a1, by rw [List.all_cons, a2]; rfl, congrArg Nat.succ a3, fun k hk => ?_⟩
      rcases List.mem_cons.mp hk with rfl | hk
      · exact s.fx
      · exact a4 k hk
    | _ => simp [Sc.sts] at h
def nodup3 (i j l : Nat) : Bool := decide (i ≠ j) && decide (i ≠ l) && decide (j ≠ l)
def sAsgTT (fE : Sc → Expr → Ex) (sc : Sc) (ts vs : List Expr) : Sx := gdD (vs.all notStar && decide (vs.length ≤ 1000)) (orD (swapS sc.names ts vs) (fun o => match o with
  | none => orD (sc.sts ts) (fun is => sPar is (vs.map (fE sc)) (is.map sc.own.contains)) (orD (eTg sc 4 (.Tuple ts 0 ⟨0, 0, 0, 0⟩)) (fun t => sAsgT t (eTup (fE sc) sc vs)) sNo)
  | some _ => match ts, vs with
    | [.Name x _, .Name y _], [a, b] => orD (sc.st x) (fun i => orD (sc.st y) (fun j => gdD (decide (i ≠ j) && isLoc (sc.names.lookup x) && isLoc (sc.names.lookup y) && decide (o = some [x, y])) (sPar [i, j] [fE sc a, fE sc b] [sc.own.contains i, sc.own.contains j]) sNo) sNo) sNo
    | [.Name x _, .Name y _, .Name z _], [a, b, c] => orD (sc.st x) (fun i => orD (sc.st y) (fun j => orD (sc.st z) (fun l => gdD (nodup3 i j l && isLoc (sc.names.lookup x) && isLoc (sc.names.lookup y) && isLoc (sc.names.lookup z) && decide (o = some [x, y, z]))
        (sPar [i, j, l] [fE sc a, fE sc b, fE sc c] [sc.own.contains i, sc.own.contains j, sc.own.contains l]) sNo) sNo) sNo) sNo
    | _, _ => sNo) sNo) sNo
theorem tg_tup {k k2} {p p2 : Pos} {n : Nat} {ts : List Expr} : eTg sc n (.Tuple ts k p) = eTg sc n (.Tuple ts k2 p2) := by
  cases n with
  | zero => rfl
  | succ n => rw [eTg, eTg]
theorem sAsgTT_ok (g : Gd M W Fx X C sc) {fE : Sc → Expr → Ex} {fT : Sc → Expr → Tx} (r : RecOk M C fE fT) {ts vs : List Expr} {k k2} {p p2 q : Pos} : SOk M W Fx X C (.Assign [.Tuple ts k p] (.Tuple vs k2 p2) q) (sAsgTT fE sc ts vs) := by
  have h := (r _ _ _ _ g).1
  refine gdD_ok (fun c => orD_ok (fun o ho => ?_) ps_no) ps_no
  obtain ⟨c1, c2⟩ := and_ok c
  have hw := swapS_ok g (k := k) (k2 := k2) (p := p) (p2 := p2) ho
  split
  · refine orD_ok (fun is his => ?_) (orD_ok (fun t ht => ?_) ps_no)
    · obtain ⟨a1, a2, a3, a4⟩ := sts_ok g his
      obtain ⟨b1, b2⟩ := asg_len (env := X.env) a2
      exact s_parN g.calm a1 (vals_ok h c1) a4 (by rw [b1, a3]) b2 (of_decide_eq_true c2) (by rw [List.length_map]) rfl hw rfl
    · exact s_asgT (tg_ok g (tg_tup.trans ht)) (eTup_ok g h) rfl hw rfl
  · split
    · rename_i x px y py a b
      refine orD_ok (fun i hi => orD_ok (fun j hj => gdD_ok (fun c => ?_) ps_no) ps_no) ps_no
      obtain ⟨c, d4⟩ := and_ok c
      obtain ⟨c, d3⟩ := and_ok c
      obtain ⟨d1, d2⟩ := and_ok c
      have si := st_ok g hi
      have sj := st_ok g hj
      rw [of_decide_eq_true d4] at hw
      exact s_par2 g.calm g.nd si.ix sj.ix (of_decide_eq_true d1) (by rw [g.nm]; exact loc_ok d2) (by rw [g.nm]; exact loc_ok d3) (vals_ok h c1) hw (fun k hk => by
        simp only [List.mem_cons, List.not_mem_nil, or_false] at hk
        rcases hk with rfl | rfl
        · exact si.fx
        · exact sj.fx)
    · rename_i x px y py z pz a b c0
      refine orD_ok (fun i hi => orD_ok (fun j hj => orD_ok (fun l hl => gdD_ok (fun c => ?_) ps_no) ps_no) ps_no) ps_no
      obtain ⟨c, d5⟩ := and_ok c
      obtain ⟨c, d4⟩ := and_ok c
      obtain ⟨c, d3⟩ := and_ok c
      obtain ⟨d1, d2⟩ := and_ok c
      have si := st_ok g hi
      have sj := st_ok g hj
      have sl := st_ok g hl
      rw [of_decide_eq_true d5] at hw
      obtain ⟨n1, n3⟩ := and_ok d1
      obtain ⟨n1, n2⟩ := and_ok n1
      exact s_par3 g.calm g.nd si.ix sj.ix sl.ix (of_decide_eq_true n1) (of_decide_eq_true n2) (of_decide_eq_true n3) (by rw [g.nm]; exact loc_ok d2) (by rw [g.nm]; exact loc_ok d3) (by rw [g.nm]; exact loc_ok d4) (vals_ok h c1) hw (fun k hk => by
        simp only [List.mem_cons, List.not_mem_nil, or_false] at hk
        rcases hk with rfl | rfl | rfl
        · exact si.fx
        · exact sj.fx
        · exact sl.fx)
    · exact ps_no

/-! ### assignments -/
def notTup : Expr → Bool
  | .Tuple .. => false
  | _ => true
def sAsgAll (fE : Sc → Expr → Ex) (fT : Sc → Expr → Tx) (sc : Sc) (ts : List Expr) (e : Expr) : Sx := match ts with
  | [.Name x p] => sAsgN fE fT sc x p e
  | [.Tuple ts k p] => (match e with
    | .Tuple vs _ _ => sAsgTT fE sc ts vs
    | e => gdD (notTup e) (orD (eTg sc 4 (.Tuple ts k p)) (fun t => sAsgT t (fE sc e)) sNo) sNo)
  | [.Subscript o ix _] => orD (sc.var o) (fun i => gdD (notSlice ix && notComp e) (sSetIx i (fE sc ix) (fE sc e)) sNo) sNo
  | _ => sNo
theorem swT_no {e : Expr} {ts : List Expr} {k} {p : Pos} {l : Nat} {env : PySem.Env} : swapsWithSole [.Tuple ts k p] e l env = pure false := by
  cases e <;> rfl
theorem swS_no {e o ix : Expr} {p : Pos} {l : Nat} {env : PySem.Env} : swapsWithSole [.Subscript o ix p] e l env = pure false := by
  cases e <;> rfl
theorem asgSub {o ix : Expr} {p : Pos} {env : PySem.Env} (h : notSlice ix = true) : ∀ v, PySem.assign (.Subscript o ix p) env v = (do
      let ov ← holding [v] (eval o env)
      let iv ← holding [v, ov] (eval ix env)
      standAt p
      holding [v, ov, iv] (setItem ov iv v)
      release [v, ov, iv] []) := by
  cases ix <;> first | (intro _; rfl) | cases h
theorem sAsgAll_ok (g : Gd M W Fx X C sc) {fE : Sc → Expr → Ex} {fT : Sc → Expr → Tx} (r : RecOk M C fE fT) {ts : List Expr} {e : Expr} {q : Pos} : SOk M W Fx X C (.Assign ts e q) (sAsgAll fE fT sc ts e) := by
  have h := (r _ _ _ _ g).1
  unfold sAsgAll
  split
  · exact sAsgN_ok g r
  · split
    · exact sAsgTT_ok g r
    · refine gdD_ok (fun c => orD_ok (fun t ht => ?_) ps_no) ps_no
      exact s_asgT (tg_ok g ht) (h _) swT_no (by cases e <;> first | rfl | cases c) rfl
  · rename_i o ix p
    refine orD_ok (fun i hi => gdD_ok (fun c => ?_) ps_no) ps_no
    have v := (var_ok g hi).v
    exact s_setIx v (h _) (h _) (pg_sub v (h _) set_list (asgSub (and_ok c).1)) swS_no (by cases e <;> rfl) rfl
  · exact ps_no

/-! ### statements -/
def sExpr (fE : Sc → Expr → Ex) (sc : Sc) (e : Expr) : Sx := match e with
  | .Call (.Attribute o nm ap) [a] [] q => orD (sc.var o) (fun i => gdD ((nm == ("append" : Str)) && notStar a && (ap.endLine == q.line)) (sApp i (fE sc a)) (gdD ((nm == ("extend" : Str)) && notStar a && (ap.endLine == q.line)) (sExt i (fE sc a)) (gdD (nm == ("pop" : Str)) (sExp (fE sc (.Call (.Attribute o nm ap) [a] [] q))) sNo))) sNo
  | e => gdD (notComp e) (sExp (fE sc e)) sNo
theorem sExpr_ok (g : Gd M W Fx X C sc) {fE : Sc → Expr → Ex} {fT : Sc → Expr → Tx} (r : RecOk M C fE fT) {e : Expr} {q : Pos} : SOk M W Fx X C (.Expr e q) (sExpr fE sc e) := by
  have h := (r _ _ _ _ g).1
  unfold sExpr
  split
  · rename_i o nm ap a q'
    refine orD_ok (fun i hi => ?_) ps_no
    have v := var_ok g hi
    have hs : notSuper o = true := by
      obtain ⟨x, p, rfl, _⟩ := v.go
      rfl
    refine gdD_ok (fun c => ?_) (gdD_ok (fun c => ?_) (gdD_ok (fun c => s_exp (swaps_no rfl) (h _)) ps_no))
    · obtain ⟨c, c3⟩ := and_ok c
      obtain ⟨c1, c2⟩ := and_ok c
      obtain rfl := eq_of_beq c1
      have hA : [a].all notStar = true := by rw [List.all_cons, c2]; rfl
      exact s_app (o := o) (e := a) g.hK (pe_bm F.plainAttrs_list F.slot_list_append F.type_list_append mt_append v.v (pa_cons (h a) pa_nil (star_no c2)) (notSuper_ok hs)
        (by rw [back_all hA]; rfl) c3 (star_no c2) (back_plain (es := []) rfl)) (swaps_no rfl)
    · obtain ⟨c, c3⟩ := and_ok c
      obtain ⟨c1, c2⟩ := and_ok c
      obtain rfl := eq_of_beq c1
      have hA : [a].all notStar = true := by rw [List.all_cons, c2]; rfl
      exact s_ext (o := o) (e := a) g.hK (pe_bm F.plainAttrs_list F.slot_list_extend F.type_list_extend mt_extend v.v (pa_cons (h a) pa_nil (star_no c2)) (notSuper_ok hs)
        (by rw [back_all hA]; rfl) c3 (star_no c2) (back_plain (es := []) rfl)) (swaps_no rfl)
  · exact gdD_ok (fun c => s_exp (swaps_no c) (h _)) ps_no
def sRetE (fE : Sc → Expr → Ex) (sc : Sc) (o : Option Expr) : Sx := match o with
  | none => sRetN
  | some e => orD (sc.var e) (fun i => sRet (cMov i) true) (sRet (fE sc e) true)
theorem sRetE_ok (g : Gd M W Fx X C sc) {fE : Sc → Expr → Ex} {fT : Sc → Expr → Tx} (r : RecOk M C fE fT) {o : Option Expr} {q : Pos} : SOk M W Fx X C (.Return o q) (sRetE fE sc o) := by
  unfold sRetE
  split
  · exact s_retN
  · exact orD_ok (fun i hi => s_ret (var_ok g hi).m) (s_ret ((r _ _ _ _ g).1 _))
def seqS (h : Stmt → Sx) : List Stmt → Sx
  | [] => sPass
  | st :: r => sSeq (h st) (seqS h r)
theorem seqS_ok {h : Stmt → Sx} (hh : ∀ st, SOk M W Fx X C st (h st)) : ∀ {l : List Stmt}, SsOk M W Fx X C l (seqS h l)
  | [] => ss_nil
  | st :: r => ss_cons (hh st) (seqS_ok hh)
/-! ### raise, try -/
def exIx : ExT → Str → Nat → Option (Nat × List Str)
  | [], _, _ => none
  | p :: r, x, k => if p.1 == x then some (k, p.2) else exIx r x (k + 1)
theorem exIx_ok : ∀ {xs : ExT} {x : Str} {k : Nat} {q : Nat × List Str}, exIx xs x k = some q → ∃ j, q.1 = k + j ∧ xs[j]? = some (x, q.2)
  | [], _, _, _, h => by cases h
  | p :: r, x, k, q, h => by
    unfold exIx at h
    split at h
    · rename_i e
      cases h
      refine ⟨0, rfl, ?_⟩
      have e := eq_of_beq e
      subst e
      rfl
    · obtain ⟨j, e1, e2⟩ := exIx_ok h
      exact ⟨j + 1, by omega, by simpa using e2⟩
def sRs (f : Expr → Ex) (sc : Sc) : Expr → Sx
  | .Call (.Name x _) [] [] _ => gdD (sc.stm && isGlo (sc.names.lookup x) && plainN x) (orD (exIx sc.exs x 0) (fun q => gdD (decide (q.2 = [])) (sRaiseX q.1 0 []) sNo) sNo) sNo
  | .Call (.Name x _) [e] [] _ => gdD (sc.stm && isGlo (sc.names.lookup x) && plainN x && notStar e) (orD (exIx sc.exs x 0) (fun q => gdD (decide (q.2.length = 1)) (sRaiseX q.1 1 [f e]) sNo) sNo) sNo
  | _ => sNo
theorem sRs_ok (g : Gd M W Fx X C sc) {f : Expr → Ex} (h : ∀ e, EOk M W Fx X C e (f e)) {e : Expr} {q : Pos} : SOk M W Fx X C (.Raise (some e) none q) (sRs f sc e) := by
  unfold sRs
  split
  · rename_i x p q'
    refine gdD_ok (fun c => orD_ok (fun z hz => gdD_ok (fun d => ?_) ps_no) ps_no) ps_no
    obtain ⟨c, c3⟩ := and_ok c
    obtain ⟨c1, c2⟩ := and_ok c
    obtain ⟨j, e1, e2⟩ := exIx_ok hz
    rw [Nat.zero_add] at e1
    have d := of_decide_eq_true d
    rw [d] at e2
    obtain ⟨fI, fd, ps, fg, ar, i1, i2, i3, i4, i5, i6, i7⟩ := (g.exi c1 _ (List.mem_of_getElem? e2)).go
    obtain ⟨o1, o2, o3, o4, o5⟩ := g.exf.one _ (List.mem_of_getElem? e2)
    rcases i7 with ⟨_, i7⟩ | ⟨rfl, _⟩
    · cases i7
    · rw [e1]
      exact s_raise0 (by rw [g.mx, ← g.hK]) rfl e2 o1 i6 i1 i2 i3 i5 i4 (g.gl' c2) o5 g.calm g.tk (plainN_ok c3).1
  · rename_i x p e q'
    refine gdD_ok (fun c => orD_ok (fun z hz => gdD_ok (fun d => ?_) ps_no) ps_no) ps_no
    obtain ⟨c, c4⟩ := and_ok c
    obtain ⟨c, c3⟩ := and_ok c
    obtain ⟨c1, c2⟩ := and_ok c
    obtain ⟨j, e1, e2⟩ := exIx_ok hz
    rw [Nat.zero_add] at e1
    have d := of_decide_eq_true d
    obtain ⟨fI, fd, ps, fg, ar, i1, i2, i3, i4, i5, i6, i7⟩ := (g.exi c1 _ (List.mem_of_getElem? e2)).go
    obtain ⟨o1, o2, o3, o4, o5⟩ := g.exf.one _ (List.mem_of_getElem? e2)
    rcases i7 with ⟨rfl, i7⟩ | ⟨_, i7⟩
    · have i7 : z.2 = [fg] := i7
      rw [i7] at e2
      rw [e1]
      exact s_raise1 (by rw [g.mx, ← g.hK]) rfl e2 o1 i6 rfl i1 i2 i3 i5 i4 (g.gl' c2) o5 g.calm g.tk (h e) (plainN_ok c3).1 (star_no c4)
    · have i7 : z.2 = [] := i7
      rw [i7] at d
      cases d
  · exact ps_no
/-- the classes that a clause names -/
def clN : Expr → Option (List Str)
  | .Name x _ => some [x]
  | .Tuple [.Name x _, .Name y _] _ _ => some [x, y]
  | .Tuple [.Name x _, .Name y _, .Name z _] _ _ => some [x, y, z]
  | _ => none
def Sc.hits (sc : Sc) (l : List Str) : List Nat := (List.range sc.exs.length).filter fun c => match sc.exs[c]? with
  | some p => l.any (catB sc.xb p.1 ·)
  | none => false
theorem hits_at {sc : Sc} {l : List Str} {c : Nat} {p : Str × List Str} (h : sc.exs[c]? = some p) : (sc.hits l).contains c = l.any (catB sc.xb p.1 ·) := by
  have hl : c < sc.exs.length := (List.getElem?_eq_some_iff.mp h).1
  cases e : l.any (catB sc.xb p.1 ·) with
  | true =>
    refine List.contains_iff_mem.mpr (List.mem_filter.mpr ⟨List.mem_range.mpr hl, ?_⟩)
    rw [h]; exact e
  | false =>
    refine Bool.eq_false_iff.mpr fun q => ?_
    have q := (List.mem_filter.mp (List.contains_iff_mem.mp q)).2
    rw [h] at q
    have q : l.any (catB sc.xb p.1 ·) = true := q
    rw [e] at q; cases q
def Sc.clOk (sc : Sc) (l : List Str) : Bool := l.all fun x => isGlo (sc.names.lookup x) && plainN x && isX sc.exs sc.xb x
theorem names_x (g : Gd M W Fx X C sc) {x : Str} (h : (isGlo (sc.names.lookup x) && plainN x && isX sc.exs sc.xb x) = true) : Names X x (.ref (He.ga X.K x)) := by
  obtain ⟨h, h3⟩ := and_ok h
  obtain ⟨h1, h2⟩ := and_ok h
  exact ⟨g.gl' h1, (plainN_ok h2).1, .inl (g.exf.mgx h3)⟩
theorem any_c (g : Gd M W Fx X C sc) {p : Str × List Str} (hp : p ∈ sc.exs) : ∀ {l : List Str}, sc.clOk l = true → PySem.W.exmAny X.K (.ref (He.ga X.K p.1)) (l.map fun x => .ref (He.ga X.K x)) = some (l.any (catB sc.xb p.1 ·))
  | [], _ => rfl
  | x :: l, h => by
    unfold Sc.clOk at h
    rw [List.all_cons] at h
    obtain ⟨h1, h2⟩ := and_ok h
    have ih := any_c g hp (l := l) h2
    rw [List.map_cons, PySem.W.exmAny, (g.exf.cat p hp x (and_ok h1).2).1, ih]
    rfl
/-- what the clause asks of a class -/
def clM (K : Frag) : List Str → Value → Option Bool
  | [x] => fun cls => PySem.W.exmOne K cls (.ref (He.ga K x))
  | l => fun cls => PySem.W.exmAny K cls (l.map fun x => .ref (He.ga K x))
theorem clM_ok (g : Gd M W Fx X C sc) {l : List Str} (h : sc.clOk l = true) {c : Nat} {p : Str × List Str} (hp : sc.exs[c]? = some p) : clM X.K l (.ref (He.ga X.K p.1)) = some ((sc.hits l).contains c) := by
  rw [hits_at hp]
  unfold clM
  split
  · rename_i x
    unfold Sc.clOk at h
    rw [List.all_cons] at h
    rw [(g.exf.cat p (List.mem_of_getElem? hp) x (and_ok (and_ok h).1).2).1]
    simp
  · exact any_c g (List.mem_of_getElem? hp) h
theorem cl_ok (g : Gd M W Fx X C sc) {t : Expr} {l : List Str} (h : clN t = some l) (hc : sc.clOk l = true) : ClauseOk X t (clM X.K l) := by
  unfold Sc.clOk at hc
  unfold clN at h
  split at h
  · cases h
    rw [List.all_cons] at hc
    exact clause_name (names_x g (and_ok hc).1)
  · cases h
    rw [List.all_cons, List.all_cons] at hc
    exact clause_tup2 (names_x g (and_ok hc).1) (names_x g (and_ok (and_ok hc).2).1)
  · cases h
    rw [List.all_cons, List.all_cons, List.all_cons] at hc
    exact clause_tup3 (names_x g (and_ok hc).1) (names_x g (and_ok (and_ok hc).2).1) (names_x g (and_ok (and_ok (and_ok hc).2).2).1)
  · cases h
def sTr (sc : Sc) (h : Stmt → Sx) (t : Expr) (n x n' : Str) (body : List Stmt) : Sx :=
  gdD (sc.stm && (n' == n) && plainN n && isLoc (sc.names.lookup n) && isLoc (sc.names.lookup x)) (orD (clN t) (fun l => gdD (sc.clOk l) (orD (sc.st n) (fun i => orD (sc.st x) (fun v => sTry sc.exs (sc.hits l) i v (seqS h body)) sNo) sNo) sNo) sNo) sNo
/-- the same facts within a try -/
theorem Gd.tr (g : Gd M W Fx X C sc) {W' : WX} {pn : List (Addr × Obj)} {xe : Value → Shared → Prop} (tk : Takes (X.tr pn xe) W') : Gd M W' Fx (X.tr pn xe) C sc where
  hK := g.hK
  hN := g.hN
  nm := g.nm
  kd := g.kd
  nd := g.nd
  calm := g.calm
  tk := tk
  fx := g.fx
  fn := g.fn
  un := g.un
  defs := fun x d h => ⟨(g.defs x d h).go⟩
  gl := g.gl
  free := g.free
  at_ := fun f a h => by
    have z := g.at_ f a h
    cases a <;> exact z
  ctr := fun x d h => ⟨(g.ctr x d h).go⟩
  mx := g.mx
  exf := g.exf
  exi := fun h p hp => ⟨(g.exi h p hp).go⟩
  stk := g.stk
theorem sTr_ok (g : Gd M W Fx X C sc) {h : Stmt → Sx} {t : Expr} {n x n' : Str} {body : List Stmt} {p1 p2 p3 p4 p5 : Pos}
    (hb : ∀ (W' : WX) (pn : List (Addr × Obj)) (xe : Value → Shared → Prop), Gd M W' Fx (X.tr pn xe) C sc → PassesOwn (model X.prog X.w) X.A X.env xe → SsOk M W' Fx (X.tr pn xe) C body (seqS h body)) :
    SOk M W Fx X C (.Try body [.ExceptHandler (some t) (some n) [.Assign [.Name x p1] (.Name n' p2) p3] p4] [] [] p5) (sTr sc h t n x n' body) := by
  refine gdD_ok (fun c => orD_ok (fun l hl => gdD_ok (fun hc => orD_ok (fun i hi => orD_ok (fun v hv => ?_) ps_no) ps_no) ps_no) ps_no) ps_no
  obtain ⟨c, c5⟩ := and_ok c
  obtain ⟨c, c4⟩ := and_ok c
  obtain ⟨c, c3⟩ := and_ok c
  obtain ⟨c1, c2⟩ := and_ok c
  have e := eq_of_beq c2
  subst e
  have si := st_ok g hi
  have sv := st_ok g hv
  obtain ⟨k1, k2, k3⟩ := g.stk c1
  obtain ⟨n1, n2, n3⟩ := plainN_ok c3
  have kn : ∀ y, isLoc (sc.names.lookup y) = true → X.env.kindOf y = some .local := fun y hy => by
    show X.env.scope.names.lookup y = _
    rw [g.nm]; exact loc_ok hy
  exact s_try (K := X.K) (by rw [g.mx, ← g.hK]) rfl k1 k2 k3 g.nd si.ix (kn _ c4) sv.ix (kn _ c5) n1 n2 si.fx sv.fx (cl_ok g hl hc) (fun c p hp => clM_ok g hc hp) g.tk fun W' pn xe tk' pa => hb W' pn xe (g.tr tk') pa
def stepS (fE : Sc → Expr → Ex) (fT : Sc → Expr → Tx) (h : Stmt → Sx) (sc : Sc) : Stmt → Sx
  | .Assign ts e _ => sAsgAll fE fT sc ts e
  | .Expr e _ => sExpr fE sc e
  | .Return o _ => sRetE fE sc o
  | .If c a b _ => sIf (fT sc c) (seqS h a) (seqS h b)
  | .While c b [] _ => sWhile (fT sc c) (seqS h b)
  | .For tg it b [] _ => gdD (notSet it) (orD (eTg sc 4 tg) (fun t => sFor t (eIt (fE sc) sc tg it) (seqS h b)) sNo) sNo
  | .Pass _ => sPass
  | .Break _ => sBrk
  | .Continue _ => sCont
  | .Raise (some e) none _ => sRs (fE sc) sc e
  | .Try body [.ExceptHandler (some t) (some n) [.Assign [.Name x _] (.Name n' _) _] _] [] [] _ => sTr sc h t n x n' body
  | _ => sNo
def cS (m : Nat) (sc : Sc) : Nat → Stmt → Sx
  | 0, _ => sNo
  | n + 1, st => stepS (cE m) (cT m) (cS m sc n) sc st
def cB (m n : Nat) (sc : Sc) (l : List Stmt) : Sx := seqS (cS m sc n) l
end
theorem cS_all {M : Mdl} {Fx : Nat → Prop} {C : Ctx} {sc : Sc} {m : Nat} : ∀ (n : Nat) (W : WX) (X : Cx), Gd M W Fx X C sc → PassesOwn (model X.prog X.w) X.A X.env X.xe → ∀ (st : Stmt), SOk M W Fx X C st (cS m sc n st)
  | 0, _, _, _, _, _ => ps_no
  | n + 1, W, X, g, hp, st => by
    have r : RecOk M C (cE m) (cT m) := rec_ok m
    obtain ⟨h, ht⟩ := r _ _ _ _ g
    have ih : ∀ st, SOk M W Fx X C st (cS m sc n st) := fun st => cS_all n W X g hp st
    unfold cS stepS
    split
    · exact sAsgAll_ok g r
    · exact sExpr_ok g r
    · exact sRetE_ok g r
    · exact s_if (ht _) (seqS_ok ih) (seqS_ok ih)
    · exact s_while hp (ht _) (seqS_ok ih)
    · exact gdD_ok (fun c => orD_ok (fun t htg => s_for (fold_no c) hp g.calm (eIt_ok g h) (tg_ok g htg) (seqS_ok ih)) ps_no) ps_no
    · exact s_pass
    · exact s_brk
    · exact s_cont
    · exact sRs_ok g h
    · exact sTr_ok g fun W' pn xe g' pa => seqS_ok fun st => cS_all n W' (X.tr pn xe) g' pa st
    · exact ps_no
section
variable {M : Mdl} {W : WX} {Fx : Nat → Prop} {X : Cx} {C : Ctx} {sc : Sc}
theorem cS_ok (g : Gd M W Fx X C sc) (hp : PassesOwn (model X.prog X.w) X.A X.env X.xe) {m n : Nat} (st : Stmt) : SOk M W Fx X C st (cS m sc n st) := cS_all n W X g hp st
theorem cB_ok (g : Gd M W Fx X C sc) (hp : PassesOwn (model X.prog X.w) X.A X.env X.xe) {m n : Nat} {l : List Stmt} : SsOk M W Fx X C l (cB m n sc l) := seqS_ok fun st => cS_ok g hp st
end
end Ev
end
section
set_option linter.all false
set_option maxRecDepth 100000
set_option maxHeartbeats 2000000
/-! what the texts become, 6: all defs, a law's end -/
namespace Ev
open PySem PySem.Spec PyProof.Rows L2

/-- a def's text: its name, how it is called, its slots' names, names that own, the statement -/
structure DT where
  x : Str
  di : DI
  N : List Str
  own : List Nat
  st : Stmt
def cellsOf (l : List (Str × NameKind)) : List Str := (l.map (·.1)).filter fun x => l.lookup x == some .cell
def DT.sc (d : DT) (T : List (Str × DI)) (gl : List (Str × D)) (free : List Str) : Sc := ⟨d.N, (defScope d.st).names, T, gl, free, d.di.rp, cellsOf (defScope d.st).names, d.own, [], [], [], [], true⟩
def DT.md (d : DT) (T : List (Str × DI)) (gl : List (Str × D)) (free : List Str) : MDef := ⟨d.di.rp, d.N.length - d.di.ps.length, cB 40 40 (d.sc T gl free) (defBody d.st)⟩
def fnS (N P : List Str) (sc : Scope) : Bool := sc.kind == .function && !sc.isCoroutine && !sc.isGenerator && decide N.Nodup && decide (N.take P.length = P) &&
  (P.all fun x => isLoc (sc.names.lookup x) || isCell (sc.names.lookup x)) && sc.names.all fun y => y.2 != .free
theorem fnS_ok {N P : List Str} {sc : Scope} (h : fnS N P sc = true) : FnScope N P sc := by
  obtain ⟨h, h7⟩ := and_ok h
  obtain ⟨h, h6⟩ := and_ok h
  obtain ⟨h, h5⟩ := and_ok h
  obtain ⟨h, h4⟩ := and_ok h
  obtain ⟨h, h3⟩ := and_ok h
  obtain ⟨h1, h2⟩ := and_ok h
  refine ⟨eq_of_beq h1, by simpa using h2, by simpa using h3, of_decide_eq_true h4, of_decide_eq_true h5, fun x hx => ?_, fun y hy => ?_⟩
  · have := List.all_eq_true.mp h6 x hx
    rw [Bool.or_eq_true] at this
    exact this.elim (fun q => .inl (loc_ok q)) fun q => .inr (cell_ok q)
  · have := List.all_eq_true.mp h7 y hy
    simpa using this
def DT.ok (d : DT) : Bool := fnS d.N d.di.ps (defScope d.st) && decide (d.di.rp.length = d.di.ps.length) && decide (d.di.ps.length ≤ d.N.length)
/-- the defs by their names -/
def names (T : List DT) : List (Str × DI) := T.map fun d => (d.x, d.di)

/-- what the head tells -/
structure Facts (M : Mdl) (mg : Str → Option Value) (T : List DT) (gl : List (Str × D)) (free : List Str) : Prop where
  fn : ∀ d ∈ T, ∃ (f : Addr) (fd : FuncData), FunD M.K d.x d.x (defArgs d.st) (defBody d.st) (defScope d.st) [] [] f fd ∧ mg d.x = some (.ref f) ∧ Binds M.K fd d.di.ps [] ∧ ∀ q ∈ d.di.kw, KwB M.K fd d.di.ps q.2.1 q.1 q.2.2
  gl : ∀ x d, gl.lookup x = some d → ∃ v u, mg x = some u ∧ RelV v u ∧ ∀ Av H, Rep M.K Av H d v
  free : ∀ x, x ∈ free → mg x = none
/-- the table is the program -/
structure Tab (Pg : Prog) (T : List DT) (gl : List (Str × D)) (free : List Str) : Prop where
  defs : Pg.defs = T.map fun d => d.md (names T) gl free
  ix : ∀ d ∈ T, T[d.di.ix]? = some d
  ok : ∀ d ∈ T, d.ok = true

theorem names_mem {x : Str} {di : DI} : ∀ {T : List DT}, (names T).lookup x = some di → ∃ d ∈ T, d.x = x ∧ d.di = di
  | [], h => by cases h
  | d :: T, h => by
    have h : (match x == d.x with | true => some d.di | false => (names T).lookup x) = some di := h
    split at h
    · rename_i e
      cases h
      exact ⟨d, List.mem_cons_self .., (eq_of_beq e).symm, rfl⟩
    · obtain ⟨d', a1, a2, a3⟩ := names_mem h
      exact ⟨d', List.mem_cons_of_mem _ a1, a2, a3⟩

section
variable {M : Mdl} {mg : Str → Option Value} {T : List DT} {gl : List (Str × D)} {free : List Str} {Pg : Prog} {Pr : Program} {w : World} {base : Heap}
theorem all_ok (hM : M = mkM M.K []) (F : Facts M mg T gl free) (tb : Tab Pg T gl free) : ∀ (n : Nat) (d : DT), d ∈ T → ∀ (f : Addr) (fd : FuncData), FunD M.K d.x d.x (defArgs d.st) (defBody d.st) (defScope d.st) [] [] f fd →
    FnOk Pr w M.K mg base (CX Pr w) n f fd d.di.ps (spOf M ⟨call Pg n, Pg.fuel⟩ d.di.ps.length d.di.ix)
  | 0, d, hd, f, fd, F0 => ⟨fun _ _ _ _ h => h.1, fun _ _ _ _ _ _ _ _ _ _ _ _ _ h => by
    obtain ⟨_, _, _, _, q⟩ := h
    exact q.elim⟩
  | n + 1, d, hd, f, fd, F0 => by
    have hok := tb.ok d hd
    obtain ⟨h, h3⟩ := and_ok hok
    obtain ⟨h1, h2⟩ := and_ok h
    have S := fnS_ok h1
    have h2 := of_decide_eq_true h2
    have h3 := of_decide_eq_true h3
    refine F0.ok S (fun _ _ _ _ h => h.1) (fun cdv A outer s H vs Q E hr h => ?_)
    have g : Gd M (fun cls dx _ H => E cls dx H) (FxOf d.di.rp) (cxOf (CX Pr w) Pr w M.K mg base d.N d.x (defScope d.st) f cdv A outer s H E) ⟨call Pg n, Pg.fuel⟩ (d.sc (names T) gl free) := {
      hK := rfl
      hN := rfl
      nm := rfl
      kd := S.kind
      nd := S.nd
      calm := rfl
      tk := takes_of rfl rfl rfl rfl
      fx := fun i h => h
      fn := fun _ _ => rfl
      un := by have := hr.un; show (A.deeper _).units + 65 < cLine; omega
      defs := fun x di hx => by
        obtain ⟨d', m', rfl, rfl⟩ := names_mem hx
        obtain ⟨f', fd', F', hm', hb', hk'⟩ := F.fn d' m'
        exact ⟨f', fd', n, all_ok hM F tb n d' m' f' fd' F', hr, hm', F'.kp, hb', hk'⟩
      gl := F.gl
      free := F.free
      at_ := fun _ _ h => by cases h
      ctr := fun _ _ h => by cases h
      mx := hM
      exf := ⟨fun _ h => (by cases h), fun _ h => (by cases h), fun _ h => (by cases h), fun _ h => by cases h⟩
      exi := fun _ _ h => by cases h
      stk := fun _ => ⟨rfl, rfl, rfl⟩ }
    refine ⟨_, cB_ok g (passes_of rfl) (m := 40) (n := 40), ?_⟩
    rw [← h2] at h
    have hdef : Pg.defs[d.di.ix]? = some (d.md (names T) gl free) := by rw [tb.defs, List.getElem?_map, tb.ix d hd]; rfl
    exact body_read hdef (by show d.N.length = d.di.rp.length + (d.N.length - d.di.ps.length); omega) h

/-- the law's promise from its run -/
theorem sp_law {n ix : Nat} {H : Hp} {a : Addr} {ns : List Int} {ps : List (Option Slot)} {E : XK} (hO : Only H) (hS : SqL M.K H a (ns.map V.int)) (hr : call Pg n ix [.rd (ns.map .int)] = .ret (.val (.bool true)) ps) :
    spOf M ⟨call Pg n, Pg.fuel⟩ 1 ix [.ref a] H (fun v _ => v = .bl true) E := by
  refine ⟨rfl, fun _ => False, [.rd (ns.map .int)], ⟨rfl, fun i s e => ?_, fun i j ds es b e => ?_, fun _ z => z.elim, fun _ _ z => z⟩, ?_⟩
  · cases i with
    | zero =>
      cases e
      refine ⟨.ref a, rfl, a, ns.map V.int, rfl, ?_, repI ns⟩
      rcases hS with (h | ⟨o, h⟩) | h
      · rcases hO a with q | ⟨o, xs, q⟩ <;> (rw [q] at h; cases h)
      · exact .inl ⟨o, h⟩
      · exact .inr h
    | succ i => cases i <;> cases e
  · cases i with
    | zero => cases e
    | succ i => cases i <;> cases e
  · show CRun M _ _ _ H _ _ (call Pg n ix _)
    rw [hr]
    exact fun H' v p => p.dat rfl
end

/-- a law's end -/
theorem walk_ofEW {l : PySem.W.OpenLaw} {n k : Nat} {q : Program} {loose : List Str} {XP : (Str → Option Value) → Heap → Prop} {YP : World → Heap → Prop} {d : DefRec} {CX : World → CXT} {x : Str}
    (hn : l.most = some n) (hn2 : n ≤ sizeLine) (hdf : d.params.defaults = []) (hr : Room k callerA)
    (F : ∀ (w : World) (mg : Str → Option Value) (fa : Addr) (h : Heap), YP w h → h.Ns mainGlobals mg → mg d.name = some (.ref fa) →
      ∃ (K : PySem.W.Frag) (fd : FuncData) (sp : Sp), K.In h ∧ (∀ (s : Shared) (u : Value), BindsTo s fd ⟨[u], []⟩ [(x, u)]) ∧
        (∀ (H : Hp) (a : Addr) (ns : List Int), ns.length ≤ n → Only H → SqL K H a (ns.map V.int) → sp [.ref a] H (fun v _ => v = .bl true) fun _ _ _ => False) ∧
        ∀ base : Heap, K.In base → base.Ns mainGlobals mg → FnOk l.prog w K mg base (CX w) k fa fd [x] sp)
    (hCX : ∀ (w : World) (H : Hp) (s : Shared) (e : Value) (s' : Shared), CX w [] H s (fun _ _ _ => False) e s' → False) :
    PySem.W.WalkO q loose XP YP l.row.toRowW d [] (fun f vs => PySem.call f vs) := by
  refine Att.attach_call hn hdf fun w s₀ s₁ mg mb fa o pm cd doc a vs ns G Y ho hd hcd hmg hobj hints hlen hg => ?_
  obtain ⟨K, fd, sp, KX, hb, hsp, hF⟩ := F w mg fa _ Y G.T.g hmg
  exact law_call KX G.T.g G.T.b G.T.builtins G.T.nolimit hg hobj hints (Nat.le_trans hlen hn2) hr hF hb (fun H hO hS => hsp H a ns hlen hO hS) fun H e s' => hCX w H s₁ e s'
theorem cx_no {P : Program} {w : World} {H : Hp} {s s' : Shared} {e : Value} (h : CX P w [] H s (fun _ _ _ => False) e s') : False := by
  obtain ⟨_, _, _, _, _, _, _, _, _, _, _, _, z⟩ := h
  exact z
/-- calls with names of parameters, no defaults -/
theorem bindsK {K : PySem.W.Frag} {x qual : Str} {params : Arguments} {body : List Stmt} {scope : Scope} {kws : List (Str × V)} {f : Addr} {fd : FuncData} {ps ks : List Str} {n : Nat} {p : List Nat} (F : FunD K x qual params body scope [] kws f fd)
    (h : ∀ (kV doc pm : Value) (an : Option Addr) (cdv ct : Value) (us ws : List Value), us.length = n → ws.length = ks.length → bindArgs (PySem.W.fnOf x qual params body scope .none kV doc pm an cdv ct) ⟨us, ks.zip ws⟩ = pure (ps.zip (pick p (us ++ ws)))) : KwB K fd ps ks n p := fun s us ws _ h1 h2 => by
  obtain ⟨oc, od, dV, kV, doc, pm, an, cdv, ct, osl, rfl, lk, hcd, hD, hK⟩ := F.ex
  rcases hD with ⟨_, rfl⟩ | ⟨e, _⟩
  · exact .of_eq (h kV doc pm an cdv ct us ws h1 h2)
  · exact absurd rfl e
def DT.dd (d : DT) : He.DefD := ⟨(d.x, none), d.x, d.x, defArgs d.st, defBody d.st, defScope d.st, [], []⟩
def faG : Str × D → He.Fa
  | (x, .int i) => .int x i
  | (x, .str z) => .str x z
  | (x, _) => .free x
def glOk (gl : List (Str × D)) : Bool := gl.all fun p => match p.2 with
  | .int _ => true
  | .str _ => true
  | _ => false
def faOf (T : List DT) (free : List Str) (gl : List (Str × D)) : List He.Fa := (T.map fun d => He.Fa.glo d.x) ++ (free.map He.Fa.free ++ gl.map faG)
/-- how the defs bind -/
def BindOk (d : DT) : Prop := ∀ (K : PySem.W.Frag) (f : Addr) (fd : FuncData), FunD K d.x d.x (defArgs d.st) (defBody d.st) (defScope d.st) [] [] f fd → (∀ (s : Shared) (us : List Value), us.length = d.di.ps.length → BindsTo s fd ⟨us, []⟩ (d.di.ps.zip us)) ∧ ∀ q ∈ d.di.kw, KwB K fd d.di.ps q.2.1 q.1 q.2.2
theorem look_mem {x : Str} {d : D} : ∀ {gl : List (Str × D)}, gl.lookup x = some d → (x, d) ∈ gl
  | [], h => by cases h
  | p :: gl, h => by
    have h : (match x == p.1 with | true => some p.2 | false => gl.lookup x) = some d := h
    split at h
    · rename_i e
      cases h
      have e := eq_of_beq e
      subst e
      exact List.mem_cons_self ..
    · exact List.mem_cons_of_mem _ (look_mem h)
theorem facts_of {M : Mdl} {h : Heap} {mg : Str → Option Value} {T : List DT} {free : List Str} {gl : List (Str × D)} (X : M.K.In h) (G : h.Ns mainGlobals mg) (c : He.SaysD (faOf T free gl) (T.map DT.dd) M.K) (hb : ∀ d ∈ T, BindOk d) (hg : glOk gl = true) : Facts M mg T gl free where
  fn := fun d hd => by
    obtain ⟨i, hi⟩ := List.getElem?_of_mem hd
    obtain ⟨fd, F⟩ := c.def_ i (d := d.dd) (by rw [List.getElem?_map, hi]; rfl)
    have e : (faOf T free gl)[i]? = some (.glo d.x) := by
      unfold faOf
      rw [List.getElem?_append_left (by rw [List.length_map]; exact (List.getElem?_eq_some_iff.mp hi).1), List.getElem?_map, hi]; rfl
    obtain ⟨b1, b2⟩ := hb d hd _ _ _ F
    exact ⟨_, fd, F, He.glo_ok X G (c.fact i e), fun s us _ hl => by rw [List.append_nil] at hl ⊢; exact b1 s us hl, b2⟩
  gl := fun x d h => by
    have hm := look_mem h
    obtain ⟨i, hi⟩ := List.getElem?_of_mem hm
    have e : (faOf T free gl)[T.length + (free.length + i)]? = some (faG (x, d)) := by
      unfold faOf
      rw [List.getElem?_append_right (by rw [List.length_map]; omega), List.length_map, Nat.add_sub_cancel_left, List.getElem?_append_right (by rw [List.length_map]; omega), List.length_map, Nat.add_sub_cancel_left, List.getElem?_map, hi]; rfl
    have hk := List.all_eq_true.mp hg _ hm
    cases d with
    | int i =>
      obtain ⟨t, ht⟩ := He.int_ok X G (c.fact _ e)
      exact ⟨.int i, _, ht, ⟨t, rfl⟩, fun _ _ => rfl⟩
    | str z =>
      obtain ⟨t, ht⟩ := He.str_ok X G (c.fact _ e)
      exact ⟨.str z, _, ht, ⟨t, rfl⟩, fun _ _ => rfl⟩
    | none => cases hk
    | bool _ => cases hk
    | list _ => cases hk
    | tuple _ => cases hk
    | dict _ => cases hk
  free := fun x hx => by
    obtain ⟨i, hi⟩ := List.getElem?_of_mem hx
    have e : (faOf T free gl)[T.length + i]? = some (.free x) := by
      unfold faOf
      rw [List.getElem?_append_right (by rw [List.length_map]; omega), List.length_map, Nat.add_sub_cancel_left, List.getElem?_append_left (by rw [List.length_map]; exact (List.getElem?_eq_some_iff.mp hi).1), List.getElem?_map, hi]; rfl
    exact He.free_ok X G (c.fact _ e)
/-- a law's promise over the written part -/
theorem law_facts {Pr : Program} {w : World} {h : Heap} {mg : Str → Option Value} {T : List DT} {free : List Str} {gl : List (Str × D)} {Pg : Prog} {d : DT} {n : Nat} {x : Str} {fa : Addr} {K : PySem.W.Frag} (X : K.In h) (G : h.Ns mainGlobals mg) (hfa : mg d.x = some (.ref fa))
    (c : He.SaysD (faOf T free gl) (T.map DT.dd) K) (hb : ∀ d ∈ T, BindOk d) (hg : glOk gl = true) (tb : Tab Pg T gl free) (hd : d ∈ T) (hp : d.di.ps = [x])
    (hrun : ∀ ns : List Int, ns.length ≤ 63 → ∃ ps, call Pg n d.di.ix [.rd (ns.map .int)] = .ret (.val (.bool true)) ps) :
    ∃ (K : PySem.W.Frag) (fd : FuncData) (sp : Sp), K.In h ∧ (∀ (s : Shared) (u : Value), BindsTo s fd ⟨[u], []⟩ [(x, u)]) ∧
        (∀ (H : Hp) (a : Addr) (ns : List Int), ns.length ≤ 63 → Only H → SqL K H a (ns.map V.int) → sp [.ref a] H (fun v _ => v = .bl true) fun _ _ _ => False) ∧
        ∀ base : Heap, K.In base → base.Ns mainGlobals mg → FnOk Pr w K mg base (CX Pr w) n fa fd [x] sp := by
  have F := facts_of (M := mkM K []) X G c hb hg
  obtain ⟨f, fd, F1, hm, hB, _⟩ := F.fn d hd
  have e := hfa.symm.trans hm
  cases e
  refine ⟨K, fd, spOf (mkM K []) ⟨call Pg n, Pg.fuel⟩ 1 d.di.ix, X, fun s u => ?_, fun H a ns hl hO hS => ?_, fun base _ _ => ?_⟩
  · have b := (hb d hd _ _ _ F1).1 s [u]
    rw [hp] at b
    exact b rfl
  · obtain ⟨ps, hr⟩ := hrun ns hl
    exact sp_law hO hS hr
  · have q := all_ok (Pr := Pr) (w := w) (base := base) rfl F tb n d hd fa fd F1
    rw [hp] at q
    exact q
end Ev
end
section
set_option linter.all false
set_option maxRecDepth 100000
set_option maxHeartbeats 2000000
/-! what the texts become, 7: constructors -/
namespace Ev
open PySem PySem.Spec PyProof.Rows L2
def cG (m n : Nat) (sc : Sc) (fl : List Str) (x0 : Str) : Nat → List Stmt → Option (List Stg)
  | _, [] => some []
  | k, .Assign [.Attribute (.Name y _) f _] v _ :: rest => if (y == x0 && (notComp v && (fl[k]? == some f))) = true then (cG m n sc fl x0 (k + 1) rest).map (.set (cE m sc v) :: ·) else none
  | k, st :: rest => (cG m n sc fl x0 k rest).map (.act (cS m sc n st) :: ·)
theorem cG_ok {M : Mdl} {W : WX} {X : Cx} {C : Ctx} {sc : Sc} (g : Gd M W (fun i => i = 0) X C sc) (hp : PassesOwn (model X.prog X.w) X.A X.env X.xe) {m n : Nat} {fl : List Str} {c x0 : Str} (hfl : ∀ k f, fl[k]? = some f → ∃ q, SlX.Slot1 X.K (He.ga X.K c) f q k) :
    ∀ (k : Nat) (body : List Stmt) (gs : List Stg), cG m n sc fl x0 k body = some gs → GC X M W C c x0 k gs body := by
  have r : RecOk M C (cE m) (cT m) := rec_ok m
  obtain ⟨h, ht⟩ := r _ _ _ _ g
  intro k body
  induction body generalizing k with
  | nil =>
    intro gs e
    unfold cG at e
    cases e
    exact .nil
  | cons st rest ih =>
    intro gs e
    unfold cG at e
    split at e
    · rename_i z; cases z
    · rename_i k' y p1 f p2 v pos rest' z
      cases z
      split at e
      · rename_i hc
        obtain ⟨h1, hc⟩ := and_ok hc
        obtain ⟨h2, h3⟩ := and_ok hc
        obtain ⟨gs', e', rfl⟩ := Option.map_eq_some_iff.mp e
        obtain ⟨q, hq⟩ := hfl _ _ (eq_of_beq h3)
        have := eq_of_beq h1
        subst this
        exact .set (h v) (swaps_no h2) hq (ih _ _ e')
      · cases e
    · rename_i k' st' rest' _ z
      cases z
      obtain ⟨gs', e', rfl⟩ := Option.map_eq_some_iff.mp e
      exact .act (cS_ok g hp st) (ih _ _ e')
end Ev
end
section
set_option linter.all false
set_option maxRecDepth 100000
set_option maxHeartbeats 2000000
/-! what the texts become, 8: defs, getters and constructors of one table -/
namespace Ev
open PySem PySem.Spec PyProof.Rows L2
/-- whose a def is: the module's, a class's property, a class's constructor (its slots) -/
inductive Src where
  | top
  | prp (c : Str)
  | mth (c : Str)
  | ini (c : Str) (fl : List Str)
  | exi (c : Str)
structure DX where
  x : Str
  q : Str
  di : DI
  N : List Str
  own : List Nat
  st : Stmt
  src : Src
/-- what the table knows beside its defs -/
structure TX where
  T : List DX
  gl : List (Str × D)
  free : List Str
  at_ : List (Str × At)
  ctr : List (Str × DI)
  exs : ExT
  xb : List Str
def DX.top (d : DX) : Bool := match d.src with
  | .top => true
  | _ => false
def namesX (T : List DX) : List (Str × DI) := (T.filter DX.top).map fun d => (d.x, d.di)
/-- the constructor's parameters: one more, never stored -/
def DX.rp (d : DX) : List Bool := match d.src with
  | .ini _ _ => true :: d.di.rp
  | _ => d.di.rp
def DX.ps (d : DX) : List Str := match d.src with
  | .ini _ _ => d.N.take (d.di.ps.length + 1)
  | _ => d.di.ps
def DX.sc (d : DX) (t : TX) : Sc := ⟨d.N, (defScope d.st).names, namesX t.T, t.gl, t.free, d.rp, cellsOf (defScope d.st).names, d.own, t.at_, t.ctr, t.exs, t.xb, true⟩
def DX.md (d : DX) (t : TX) : MDef := match d.src with
  | .ini c fl => match cG 40 40 (d.sc t) fl (d.N.headD Str.empty) 0 (defBody d.st) with
    | some gs => ⟨d.di.rp, 0, bNew c gs (d.N.length - (1 + d.di.rp.length))⟩
    | none => ⟨d.di.rp, 0, fun _ _ => .no⟩
  | _ => ⟨d.di.rp, d.N.length - d.di.ps.length, cB 40 40 (d.sc t) (defBody d.st)⟩
def DX.ok (d : DX) (t : TX) : Bool := fnS d.N d.ps (defScope d.st) && decide (d.di.rp.length = d.di.ps.length) && decide (d.ps.length ≤ d.N.length) && (match d.src with
  | .ini c fl => (d.di.rp.all fun b => !b) && decide (d.ps.length = d.di.ps.length + 1) && (isVis ((defScope d.st).names.lookup (d.N.headD Str.empty)) && plainN (d.N.headD Str.empty)) && (cG 40 40 (d.sc t) fl (d.N.headD Str.empty) 0 (defBody d.st)).isSome
  | _ => true)
/-- an error's own __init__: the field, whether it is the argument -/
def initX (ps : List Str) (sc : Scope) : List Stmt → Option (Str × Bool)
  | [.Assign [.Attribute (.Name s _) f _] (.Name p _) _] => if decide (ps = [s, p]) && (isVis (sc.names.lookup s) && isVis (sc.names.lookup p)) && (plainN s && plainN p) then some (f, true) else none
  | [.Assign [.Attribute (.Name s _) f _] (.Tuple [] _ _) _] => if decide (ps = [s]) && isVis (sc.names.lookup s) && plainN s then some (f, false) else none
  | _ => none
theorem initX_ok {Pr : Program} {w : World} {K : PySem.W.Frag} {mg : Str → Option Value} {base : Heap} {CX : CXT} {x q f : Str} {params : Arguments} {scope : Scope} {fI : Addr} {fd : FuncData} {ps : List Str} {body : List Stmt} {ar : Bool} {C : Addr}
    (h : initX ps scope body = some (f, ar)) (F0 : FunD K x q params body scope [] [] fI fd) (S : FnScope ps ps scope) : FnOk Pr w K mg base CX 1 fI fd ps (spExi K C f ar) := by
  unfold initX at h
  split at h
  · split at h
    · rename_i c
      cases h
      obtain ⟨c, c3⟩ := and_ok c
      obtain ⟨c1, c2⟩ := and_ok c
      have e := of_decide_eq_true c1
      subst e
      obtain ⟨a1, a2, _⟩ := plainN_ok (and_ok c3).1
      obtain ⟨b1, b2, _⟩ := plainN_ok (and_ok c3).2
      exact exi1_ok F0 S (vis_ok (and_ok c2).1) (vis_ok (and_ok c2).2) a1 b1 a2 b2
    · cases h
  · split at h
    · rename_i c
      cases h
      obtain ⟨c, c3⟩ := and_ok c
      obtain ⟨c1, c2⟩ := and_ok c
      have e := of_decide_eq_true c1
      subst e
      obtain ⟨a1, a2, _⟩ := plainN_ok c3
      exact exi0_ok F0 S (vis_ok c2) a1 a2
    · cases h
  · cases h
def AtF (M : Mdl) (t : TX) (f : Str) : At → Prop
  | .fld c k => SlX.SCls M.K (He.ga M.K c) ∧ ∃ q, SlX.Slot1 M.K (He.ga M.K c) f q k
  | .prp c fi => SlX.SCls M.K (He.ga M.K c) ∧ ∃ (q g : Addr), PySem.W.findIn M.K (.ref (He.ga M.K c)) f = some (some (.ref q)) ∧ PySem.W.specialIn M.K (.ref q) "__get__" = some (some (.builtin "property.__get__")) ∧
    PySem.W.takesIn M.K (.ref q) = some true ∧ (∃ rest, PySem.W.recIn M.K q "property" = some (.ref g :: rest)) ∧
    ∃ d ∈ t.T, d.src = .prp c ∧ d.di.ix = fi ∧ d.di.ps.length = 1 ∧ ∃ fd, FunD M.K d.x d.q (defArgs d.st) (defBody d.st) (defScope d.st) [] [] g fd ∧ Binds M.K fd d.di.ps []
  | .xfl => True
  | .mth c fi np => SlX.SCls M.K (He.ga M.K c) ∧ ∃ (g : Addr), Meth M.K (He.ga M.K c) f g ∧
    ∃ d ∈ t.T, d.src = .mth c ∧ d.di.ix = fi ∧ d.di.ps.length = np ∧ ∃ fd, FunD M.K d.x d.q (defArgs d.st) (defBody d.st) (defScope d.st) [] [] g fd ∧ Binds M.K fd d.di.ps []
structure FactsX (M : Mdl) (mg : Str → Option Value) (t : TX) : Prop where
  fn : ∀ d ∈ t.T, d.src = .top → ∃ (f : Addr) (fd : FuncData), FunD M.K d.x d.q (defArgs d.st) (defBody d.st) (defScope d.st) [] [] f fd ∧ mg d.x = some (.ref f) ∧ Binds M.K fd d.di.ps [] ∧ ∀ q ∈ d.di.kw, KwB M.K fd d.di.ps q.2.1 q.1 q.2.2
  gl : ∀ x d, t.gl.lookup x = some d → ∃ v u, mg x = some u ∧ RelV v u ∧ ∀ Av H, Rep M.K Av H d v
  free : ∀ x, x ∈ t.free → mg x = none
  at_ : ∀ f a, t.at_.lookup f = some a → AtF M t f a
  ctr : ∀ x di, t.ctr.lookup x = some di → ∃ (f : Addr), Mk M.K (He.ga M.K x) f ∧ mg x = some (.ref (He.ga M.K x)) ∧
    ∃ d ∈ t.T, ∃ fl, d.src = .ini x fl ∧ d.di = di ∧ ∃ fd, FunD M.K d.x d.q (defArgs d.st) (defBody d.st) (defScope d.st) [] [] f fd ∧ Binds M.K fd d.ps []
  ini : ∀ d ∈ t.T, ∀ c fl, d.src = .ini c fl → SlX.SCls M.K (He.ga M.K c) ∧ ∀ k f, fl[k]? = some f → ∃ q, SlX.Slot1 M.K (He.ga M.K c) f q k
  exf : ExF M.K mg t.exs t.xb
  exi : ∀ p ∈ t.exs, ∃ d ∈ t.T, ∃ (f : Addr) (fd : FuncData) (fg : Str) (ar : Bool), FunD M.K d.x d.q (defArgs d.st) (defBody d.st) (defScope d.st) [] [] f fd ∧ Binds M.K fd d.di.ps [] ∧ fnS d.di.ps d.di.ps (defScope d.st) = true ∧
    initX d.di.ps (defScope d.st) (defBody d.st) = some (fg, ar) ∧ PySem.W.findIn M.K (.ref (He.ga M.K p.1)) "__init__" = some (some (.ref f)) ∧ PySem.W.typeIn M.K (.ref f) = some (.type "function") ∧
    PySem.W.findIn M.K (.ref (He.ga M.K p.1)) fg = some none ∧ ((ar = true ∧ p.2 = [fg]) ∨ (ar = false ∧ p.2 = []))
structure TabX (Pg : Prog) (t : TX) : Prop where
  defs : Pg.defs = t.T.map fun d => d.md t
  ix : ∀ d ∈ t.T, t.T[d.di.ix]? = some d
  ok : ∀ d ∈ t.T, d.ok t = true
theorem namesX_mem {x : Str} {di : DI} : ∀ {T : List DX}, (namesX T).lookup x = some di → ∃ d ∈ T, d.x = x ∧ d.di = di ∧ d.src = .top
  | [], h => by cases h
  | d :: T, h => by
    by_cases ht : d.top = true
    · have h : ((d.x, d.di) :: namesX T).lookup x = some di := by
        have e : namesX (d :: T) = (d.x, d.di) :: namesX T := by unfold namesX; rw [List.filter_cons, if_pos ht, List.map_cons]
        rw [← e]; exact h
      have h : (match x == d.x with | true => some d.di | false => (namesX T).lookup x) = some di := h
      split at h
      · rename_i e
        cases h
        refine ⟨d, List.mem_cons_self .., (eq_of_beq e).symm, rfl, ?_⟩
        unfold DX.top at ht
        split at ht
        · assumption
        · cases ht
      · obtain ⟨d', a1, a2⟩ := namesX_mem h
        exact ⟨d', List.mem_cons_of_mem _ a1, a2⟩
    · have e : namesX (d :: T) = namesX T := by unfold namesX; rw [List.filter_cons, if_neg ht]
      rw [e] at h
      obtain ⟨d', a1, a2⟩ := namesX_mem h
      exact ⟨d', List.mem_cons_of_mem _ a1, a2⟩
/-- a def's promise by whose it is -/
def DX.sp (d : DX) (M : Mdl) (C : Ctx) : Sp := match d.src with
  | .ini c _ => spNew M C (He.ga M.K c) d.di.ps.length d.di.ix
  | _ => spOf M C d.di.ps.length d.di.ix
end Ev
end
section
set_option linter.all false
set_option maxRecDepth 100000
set_option maxHeartbeats 2000000
/-! what the texts become, 9: all defs, getters and constructors -/
namespace Ev
open PySem PySem.Spec PyProof.Rows L2
section
variable {M : Mdl} {C : Ctx} {d : DX} {t : TX} {c : Str} {fl : List Str}
theorem sp_ini (e : d.src = .ini c fl) : d.sp M C = spNew M C (He.ga M.K c) d.di.ps.length d.di.ix := by unfold DX.sp; rw [e]
theorem sp_no (e : ∀ c fl, d.src ≠ .ini c fl) : d.sp M C = spOf M C d.di.ps.length d.di.ix := by
  unfold DX.sp
  cases h : d.src with
  | ini c fl => exact (e c fl h).elim
  | top => rfl
  | prp _ => rfl
  | mth _ => rfl
  | exi _ => rfl
theorem ps_no' (e : ∀ c fl, d.src ≠ .ini c fl) : d.ps = d.di.ps := by
  unfold DX.ps
  cases h : d.src with
  | ini c fl => exact (e c fl h).elim
  | top => rfl
  | prp _ => rfl
  | mth _ => rfl
  | exi _ => rfl
theorem rp_no (e : ∀ c fl, d.src ≠ .ini c fl) : d.rp = d.di.rp := by
  unfold DX.rp
  cases h : d.src with
  | ini c fl => exact (e c fl h).elim
  | top => rfl
  | prp _ => rfl
  | mth _ => rfl
  | exi _ => rfl
theorem rp_ini (e : d.src = .ini c fl) : d.rp = true :: d.di.rp := by unfold DX.rp; rw [e]
theorem md_no (e : ∀ c fl, d.src ≠ .ini c fl) : d.md t = ⟨d.di.rp, d.N.length - d.di.ps.length, cB 40 40 (d.sc t) (defBody d.st)⟩ := by
  unfold DX.md
  cases h : d.src with
  | ini c fl => exact (e c fl h).elim
  | top => rfl
  | prp _ => rfl
  | mth _ => rfl
  | exi _ => rfl
theorem md_ini (e : d.src = .ini c fl) {gs : List Stg} (h : cG 40 40 (d.sc t) fl (d.N.headD Str.empty) 0 (defBody d.st) = some gs) : d.md t = ⟨d.di.rp, 0, bNew c gs (d.N.length - (1 + d.di.rp.length))⟩ := by
  unfold DX.md
  rw [e]
  show (match cG 40 40 (d.sc t) fl (d.N.headD Str.empty) 0 (defBody d.st) with
    | some gs => (⟨d.di.rp, 0, bNew c gs (d.N.length - (1 + d.di.rp.length))⟩ : MDef)
    | none => ⟨d.di.rp, 0, fun _ _ => .no⟩) = _
  rw [h]
theorem ok_ini (h : d.ok t = true) (e : d.src = .ini c fl) : (d.di.rp.all fun b => !b) = true ∧ d.ps.length = d.di.ps.length + 1 ∧ isVis ((defScope d.st).names.lookup (d.N.headD Str.empty)) = true ∧ plainN (d.N.headD Str.empty) = true ∧
    ∃ gs, cG 40 40 (d.sc t) fl (d.N.headD Str.empty) 0 (defBody d.st) = some gs := by
  unfold DX.ok at h
  rw [e] at h
  obtain ⟨_, h4⟩ := and_ok h
  obtain ⟨h4, h7⟩ := and_ok h4
  obtain ⟨h4, h6⟩ := and_ok h4
  obtain ⟨h4, h5⟩ := and_ok h4
  exact ⟨h4, of_decide_eq_true h5, (and_ok h6).1, (and_ok h6).2, Option.isSome_iff_exists.mp h7⟩
theorem ini_or (d : DX) : (∃ c fl, d.src = .ini c fl) ∨ ∀ c fl, d.src ≠ .ini c fl := by
  cases h : d.src with
  | ini c fl => exact .inl ⟨c, fl, rfl⟩
  | top => exact .inr fun _ _ z => by cases z
  | prp _ => exact .inr fun _ _ z => by cases z
  | mth _ => exact .inr fun _ _ z => by cases z
  | exi _ => exact .inr fun _ _ z => by cases z
theorem sp_len (h : d.ok t = true) {vs : List V} {H : Hp} {Q : VK} {E : XK} (q : d.sp M C vs H Q E) : vs.length = d.ps.length := by
  rcases ini_or d with ⟨c, fl, e⟩ | e
  · rw [sp_ini e] at q
    obtain ⟨x, dx, rest, H0, rfl, _, _, _, _, lv, _⟩ := q
    rw [List.length_cons, lv, (ok_ini h e).2.1]
  · rw [sp_no e] at q
    rw [ps_no' e]
    exact q.1
end
section
variable {M : Mdl} {mg : Str → Option Value} {t : TX} {Pg : Prog} {Pr : Program} {w : World} {base : Heap}
theorem all_okX (hM : M = mkM M.K t.exs) (F : FactsX M mg t) (tb : TabX Pg t) : ∀ (n : Nat) (d : DX), d ∈ t.T → ∀ (f : Addr) (fd : FuncData), FunD M.K d.x d.q (defArgs d.st) (defBody d.st) (defScope d.st) [] [] f fd →
    FnOk Pr w M.K mg base (CX Pr w) (2 * n + 2) f fd d.ps (d.sp M ⟨call Pg n, Pg.fuel⟩)
  | 0, d, hd, f, fd, F0 => by
    have hok := tb.ok d hd
    refine ⟨fun vs H Q E h => sp_len hok h, fun _ _ _ _ _ _ vs Q E _ _ _ _ h => ?_⟩
    rcases ini_or d with ⟨c, fl, e⟩ | e
    · rw [sp_ini e] at h
      obtain ⟨x, dx, rest, H0, rfl, _, _, _, _, lv, _, _, _, q⟩ := h
      exact q.elim
    · rw [sp_no e] at h
      obtain ⟨_, _, _, _, q⟩ := h
      exact q.elim
  | n + 1, d, hd, f, fd, F0 => by
    have hok0 := tb.ok d hd
    have hok := hok0
    unfold DX.ok at hok
    obtain ⟨hok, h4⟩ := and_ok hok
    obtain ⟨h, h3⟩ := and_ok hok
    obtain ⟨h1, h2⟩ := and_ok h
    have S := fnS_ok h1
    have h2 := of_decide_eq_true h2
    have h3 := of_decide_eq_true h3
    have gd : ∀ (Fx : Nat → Prop), (∀ i, d.rp[i]? ≠ some true → ¬ Fx i) → ∀ (cdv : Value) (A : Around) (outer : List PySem.Env) (s : Shared) (H : Hp) (E : XK), Room (2 * n + 3) (A.deeper (envOfC d.q (defScope d.st) s.heap.objs.size f cdv)) →
        Gd M (fun cls dx _ H => E cls dx H) Fx (cxOf (CX Pr w) Pr w M.K mg base d.N d.q (defScope d.st) f cdv A outer s H E) ⟨call Pg n, Pg.fuel⟩ (d.sc t) := fun Fx hfx cdv A outer s H E hr => {
      hK := rfl
      hN := rfl
      nm := rfl
      kd := S.kind
      nd := S.nd
      calm := rfl
      tk := takes_of rfl rfl rfl rfl
      fx := hfx
      fn := fun _ _ => rfl
      un := by have := hr.un; show (A.deeper _).units + 65 < cLine; omega
      defs := fun x di hx => by
        obtain ⟨d', m', rfl, rfl, ht⟩ := namesX_mem hx
        obtain ⟨f', fd', F', hm', hb', hk'⟩ := F.fn d' m' ht
        have z := all_okX hM F tb n d' m' f' fd' F'
        have e : ∀ c fl, d'.src ≠ .ini c fl := fun _ _ y => by rw [ht] at y; cases y
        rw [sp_no e, ps_no' e] at z
        exact ⟨f', fd', 2 * n + 2, z, hr.mono (by omega), hm', F'.kp, hb', hk'⟩
      gl := F.gl
      free := F.free
      at_ := fun x a hx => by
        have z := F.at_ x a hx
        cases a with
        | fld c k => exact z
        | prp c fi =>
          obtain ⟨z1, q, ga, z2, z3, z4, z5, d', m', e1, e2, e3, fd', F', b'⟩ := z
          have y := all_okX hM F tb n d' m' ga fd' F'
          have e : ∀ c fl, d'.src ≠ .ini c fl := fun _ _ y => by rw [e1] at y; cases y
          rw [sp_no e, ps_no' e, e2, e3] at y
          exact ⟨z1, q, ga, 2 * n + 2, z2, z3, z4, z5, (y.raw b' .nil).imp (fun vs H Q E h => by rw [List.append_nil]; exact h), hr⟩
        | mth c fi np =>
          obtain ⟨z1, ga, z2, d', m', e1, e2, e3, fd', F', b'⟩ := z
          have y := all_okX hM F tb n d' m' ga fd' F'
          have e : ∀ c fl, d'.src ≠ .ini c fl := fun _ _ y => by rw [e1] at y; cases y
          rw [sp_no e, ps_no' e, e2, e3] at y
          exact ⟨z1, ga, 2 * n + 2, z2, (y.raw b' .nil).imp (fun vs H Q E h => by rw [List.append_nil]; exact h), hr⟩
        | xfl => exact trivial
      ctr := fun x di hx => by
        obtain ⟨f', Mm, hm, d', m', fl, e1, rfl, fd', F', b'⟩ := F.ctr x di hx
        have y := all_okX hM F tb n d' m' f' fd' F'
        rw [sp_ini e1] at y
        exact ⟨f', 2 * n + 2, Mm, (y.raw b' .nil).imp (fun vs H Q E h => by rw [List.append_nil]; exact h), hr, hm⟩
      mx := hM
      exf := F.exf
      exi := fun _ p hp => by
        obtain ⟨d', m', f', fd', fg, ar, F', b', s', i', i1, i2, i3, i4⟩ := F.exi p hp
        exact ⟨f', fd', d'.di.ps, fg, ar, i1, i2, initX_ok i' F' (fnS_ok s'), b', hr.mono (by omega), i3, i4⟩
      stk := fun _ => ⟨rfl, rfl, rfl⟩ }
    refine F0.ok S (fun vs H Q E h => sp_len hok0 h) (fun cdv A outer s H vs Q E hr h => ?_)
    have hdef : Pg.defs[d.di.ix]? = some (d.md t) := by rw [tb.defs, List.getElem?_map, tb.ix d hd]; rfl
    rcases ini_or d with ⟨c, fl, e⟩ | e
    · obtain ⟨o1, o2, o3, o4, gs, o5⟩ := ok_ini hok0 e
      obtain ⟨fi1, fi2⟩ := F.ini d hd c fl e
      have g := gd (fun i => i = 0) (fun i h z => by subst z; rw [rp_ini e] at h; exact h rfl) cdv A outer s H E hr
      rw [sp_ini e, ← h2] at h
      rw [md_ini e o5] at hdef
      obtain ⟨a, dx, H0, B, q⟩ := new_read (N := d.N) hdef o1 (by omega) h
      have gc := cG_ok g (passes_of rfl) (c := c) (x0 := d.N.headD Str.empty) fi2 0 (defBody d.st) gs o5
      obtain ⟨p1, p2, p3⟩ := plainN_ok o4
      refine ⟨_, gc_ok rfl ?_ (vis_ok o3) p1 p2 fi1 gc, q⟩
      show d.N[0]? = some (d.N.headD Str.empty)
      cases hN : d.N with
      | nil => rw [hN] at h3; simp at h3; rw [h3] at o2; simp at o2
      | cons y ys => rfl
    · have g := gd (FxOf d.di.rp) (fun i h z => by rw [rp_no e] at h; exact h z) cdv A outer s H E hr
      refine ⟨_, cB_ok g (passes_of rfl) (m := 40) (n := 40), ?_⟩
      rw [ps_no' e] at h3
      rw [sp_no e, ← h2] at h
      rw [md_no e] at hdef
      exact body_read hdef (by show d.N.length = d.di.rp.length + (d.N.length - d.di.ps.length); omega) h
end
end Ev
end
section
set_option linter.all false
set_option maxRecDepth 100000
set_option maxHeartbeats 2000000
/-! what the texts become, 10: the facts of a table with classes -/
namespace Ev
open PySem PySem.Spec PyProof.Rows L2
def DX.ad (d : DX) (K : Frag) : Addr := match d.src with
  | .top => He.ga K d.x
  | .prp c => Hx.getA c d.x K
  | .mth c => He.ma K (He.ga K c) d.x
  | .ini c _ => He.ma K (He.ga K c) "__init__"
  | .exi c => He.ma K (He.ga K c) "__init__"
def DX.da (d : DX) : Hx.DefA := ⟨d.ad, d.x, d.q, defArgs d.st, defBody d.st, defScope d.st⟩
def atB (p : Str × At) (K : Frag) : Bool := match p.2 with
  | .fld c k => Hx.sclsB c K && Hx.slotB c p.1 k K
  | .prp c _ => Hx.sclsB c K && Hx.propB c p.1 K
  | .mth c _ _ => Hx.sclsB c K && (He.Fa.meth c p.1).ok K
  | .xfl => true
def slotsB (c : Str) : Nat → List Str → Frag → Bool
  | _, [], _ => true
  | k, f :: fs, K => Hx.slotB c f k K && slotsB c (k + 1) fs K
theorem slotsB_ok {c : Str} {K : Frag} : ∀ {fl : List Str} {k : Nat}, slotsB c k fl K = true → ∀ j f, fl[j]? = some f → Hx.slotB c f (k + j) K = true
  | [], _, _, _, _, e => by cases e
  | g :: fs, k, h, j, f, e => by
    obtain ⟨h1, h2⟩ := He.ba h
    cases j with
    | zero => cases e; exact h1
    | succ j =>
      have := slotsB_ok h2 j f e
      rw [show k + (j + 1) = k + 1 + j by omega]
      exact this
mutual
def relB (K : Frag) : D → Value → Bool
  | .int i, .int j _ => decide (i = j)
  | .str x, .str y _ => decide (x = y)
  | .tuple ds, .ref a => (match K.lookup a with
    | some ⟨.type c, _, .seq its _, _⟩ => decide (c = "tuple") && (decide (its.size ≤ sizeLine) && relBs K ds its.toList)
    | _ => false)
  | _, _ => false
def relBs (K : Frag) : List D → List Value → Bool
  | [], [] => true
  | d :: ds, u :: us => relB K d u && relBs K ds us
  | _, _ => false
end
mutual
theorem relB_ok {K : Frag} : ∀ (d : D) (u : Value), relB K d u = true → ∃ v, RelV v u ∧ ∀ Av H, Rep K Av H d v
  | .int i, u, h => by
    unfold relB at h
    split at h
    · rename_i i' j t e1
      cases e1
      have := of_decide_eq_true h
      subst this
      exact ⟨.int _, ⟨_, rfl⟩, fun _ _ => rfl⟩
    all_goals (first | (rename_i e1 _; cases e1; done) | (rename_i e1; cases e1; done) | (cases h; done))
  | .str x, u, h => by
    unfold relB at h
    split at h
    · rename_i e1; cases e1
    · rename_i x' y t e1
      cases e1
      have := of_decide_eq_true h
      subst this
      exact ⟨.str _, ⟨_, rfl⟩, fun _ _ => rfl⟩
    all_goals (first | (rename_i e1 _; cases e1; done) | (rename_i e1; cases e1; done) | (cases h; done))
  | .tuple ds, u, h => by
    cases u with
    | ref a =>
      rw [relB] at h
      split at h
      · rename_i c od its n sl e
        obtain ⟨h1, h2⟩ := He.ba h
        obtain ⟨h2, h3⟩ := He.ba h2
        have := of_decide_eq_true h1
        subst this
        obtain ⟨vs, r, q⟩ := relBs_ok ds its.toList h3
        exact ⟨.ref a, rfl, fun Av H => ⟨a, vs, rfl, .inr ⟨_, its, n, e, rfl, rfl, of_decide_eq_true h2, r⟩, q Av H⟩⟩
      · cases h
    | _ => simp [relB] at h
  | .none, u, h => by simp [relB] at h
  | .bool _, u, h => by simp [relB] at h
  | .list _, u, h => by simp [relB] at h
  | .dict _, u, h => by simp [relB] at h
theorem relBs_ok {K : Frag} : ∀ (ds : List D) (us : List Value), relBs K ds us = true → ∃ vs, Vals vs us ∧ ∀ Av H, RepL K Av H ds vs
  | [], [], _ => ⟨[], .nil, fun _ _ => rfl⟩
  | [], _ :: _, h => by simp [relBs] at h
  | _ :: _, [], h => by simp [relBs] at h
  | d :: ds, u :: us, h => by
    rw [relBs] at h
    obtain ⟨h1, h2⟩ := He.ba h
    obtain ⟨v, r1, q1⟩ := relB_ok d u h1
    obtain ⟨vs, r, q⟩ := relBs_ok ds us h2
    exact ⟨v :: vs, .cons r1 r, fun A H' => RepL.cons (q1 A H') (q A H')⟩
end
/-- a constant tuple of ints and texts -/
def tupB (p : Str × D) (K : Frag) : Bool := match p.2 with
  | .tuple ds => (match K.lookup (He.ga K p.1) with
    | some ⟨.type c, _, .seq its _, _⟩ => decide (c = "tuple") && (decide (its.size ≤ sizeLine) && relBs K ds its.toList)
    | _ => false)
  | _ => true
theorem tupB_ok {K : Frag} {x : Str} {ds : List D} (h : tupB (x, .tuple ds) K = true) : ∀ Av H, Rep K Av H (.tuple ds) (.ref (He.ga K x)) := by
  have h : (match K.lookup (He.ga K x) with
    | some ⟨.type c, _, .seq its _, _⟩ => decide (c = "tuple") && (decide (its.size ≤ sizeLine) && relBs K ds its.toList)
    | _ => false) = true := h
  split at h
  · rename_i c od its n sl e
    obtain ⟨h1, h2⟩ := He.ba h
    obtain ⟨h2, h3⟩ := He.ba h2
    have := of_decide_eq_true h1
    subst this
    obtain ⟨vs, r, q⟩ := relBs_ok ds its.toList h3
    exact fun Av H => ⟨_, vs, rfl, .inr ⟨_, its, n, e, rfl, rfl, of_decide_eq_true h2, r⟩, q Av H⟩
  · cases h
def faGX : Str × D → He.Fa
  | (x, .tuple _) => .glo x
  | p => faG p
def glOkX (gl : List (Str × D)) : Bool := gl.all fun p => match p.2 with
  | .int _ => true
  | .str _ => true
  | .tuple _ => true
  | _ => false
def iniB (d : DX) (K : Frag) : Bool := match d.src with
  | .ini c fl => Hx.sclsB c K && slotsB c 0 fl K
  | _ => true
/-! ### classes of errors -/
def oexB (K : Frag) (C : Addr) : Bool := (match K.lookup C with
  | some ⟨.type c, _, .cls cd, sl⟩ => decide (c = "type") && ((match cd.mro with
    | .ref c :: bm => decide (c = C) && PySem.HandSPX.refsVE bm
    | _ => false) && (cd.hasDict && (!cd.hasDel && (match sl.toList with
    | [_, _, _, _, some (.builtin n), _] => decide (n = "ValueError.__new__")
    | _ => false))))
  | _ => false) && (He.eqO (PySem.W.findIn K (.ref C) "__setattr__") (some (some (.builtin "object.__setattr__"))) && (Hx.eqB (PySem.W.subIn K (.ref C) (.type "BaseException")) (some true) && (Hx.eqB (PySem.W.typeIn K (.ref C)) (some (.type "type")) && PySem.W.keepIn K (.ref C))))
theorem oexB_ok {K : Frag} {C : Addr} (h : oexB K C = true) : OexC K C := by
  unfold oexB at h
  obtain ⟨h1, h⟩ := He.ba h
  obtain ⟨h2, h⟩ := He.ba h
  obtain ⟨h3, h⟩ := He.ba h
  obtain ⟨h4, h5⟩ := He.ba h
  refine ⟨?_, He.eqO_ok h2, of_decide_eq_true h3, of_decide_eq_true h4, h5⟩
  split at h1
  · rename_i c dd cd sl e
    obtain ⟨k1, k⟩ := He.ba h1
    obtain ⟨k2, k⟩ := He.ba k
    obtain ⟨k3, k⟩ := He.ba k
    obtain ⟨k4, k5⟩ := He.ba k
    have := of_decide_eq_true k1
    subst this
    split at k2
    · rename_i c bm em
      obtain ⟨k2, k6⟩ := He.ba k2
      have := of_decide_eq_true k2
      subst this
      split at k5
      · rename_i s0 s1 s2 s3 n s5 es
        have := of_decide_eq_true k5
        subst this
        obtain ⟨nm, bs, mro, ns, qn, hd, sn, sb, ab, col, del⟩ := cd
        dsimp only at k3 k4 em
        subst k3 em
        have : del = false := by simpa using k4
        subst this
        refine ⟨nm, qn, ns, bs, bm, sn, sb, ab, col, dd, s0, s1, s2, s3, s5, ?_, k6⟩
        rw [e]
        have : sl = #[s0, s1, s2, s3, some (.builtin "ValueError.__new__"), s5] := by
          apply Array.ext'
          exact es
        rw [this]
      · cases k5
    · cases k2
  · cases h1
def exdB (K : Frag) (D : Addr) : Bool := (PySem.W.clsIn K D).isSome && (He.eqO (PySem.W.findIn K (.ref D) "__getattribute__") (some (some (.builtin "BaseException.__getattribute__"))) && (He.eqO (PySem.W.findIn K (.ref D) "__getattr__") (some none) &&
  (Hx.eqB (PySem.W.subIn K (.ref D) (.type "BaseException")) (some true) && (He.eqO (PySem.W.findIn K (.ref D) "__class__") (some (some (.builtin "object.__class__"))) && (He.eqO (PySem.W.specialIn K (.builtin "object.__class__") "__get__") (some (some (.builtin "getset_descriptor.__get__"))) &&
  (Hx.eqB (PySem.W.takesIn K (.builtin "object.__class__")) (some true) && Hx.eqB (PySem.W.mroIn K D (.type "object")) (some true)))))))
theorem exdB_ok {K : Frag} {D : Addr} (h : exdB K D = true) : ExcD K D := by
  obtain ⟨h1, h⟩ := He.ba h
  obtain ⟨h2, h⟩ := He.ba h
  obtain ⟨h3, h⟩ := He.ba h
  obtain ⟨h4, h⟩ := He.ba h
  obtain ⟨h5, h⟩ := He.ba h
  obtain ⟨h6, h⟩ := He.ba h
  obtain ⟨h7, h8⟩ := He.ba h
  exact ⟨h1, He.eqO_ok h2, He.eqO_ok h3, of_decide_eq_true h4, He.eqO_ok h5, He.eqO_ok h6, of_decide_eq_true h7, of_decide_eq_true h8⟩
def catsB (xs : ExT) (xb : List Str) (p : Str × List Str) (K : Frag) : Bool := (xs.map (·.1) ++ xb).all fun x => Hx.eqB (PySem.W.exmOne K (.ref (He.ga K p.1)) (.ref (He.ga K x))) (some (catB xb p.1 x)) && Hx.eqB (PySem.W.kitOne K (.ref (He.ga K p.1)) (.ref (He.ga K x))) (some (catB xb p.1 x))
def exB (xs : ExT) (xb : List Str) (p : Str × List Str) (K : Frag) : Bool := oexB K (He.ga K p.1) && (xfB K (He.ga K p.1) && (exdB K (He.ga K p.1) && ((p.2.all fun f => He.eqO (PySem.W.findIn K (.ref (He.ga K p.1)) f) (some none)) && (catsB xs xb p K &&
  (Hx.eqB (PySem.W.kitOne K (.ref (He.ga K p.1)) (.type "ValueError")) (some true) && (He.eqO (PySem.W.findIn K (.ref (He.ga K p.1)) "__init__") (some (some (.ref (He.ma K (He.ga K p.1) "__init__")))) && Hx.eqB (PySem.W.typeIn K (.ref (He.ma K (He.ga K p.1) "__init__"))) (some (.type "function"))))))))
/-- the field that an error's __init__ stores is no attribute of its class -/
def exiB (d : DX) (K : Frag) : Bool := match d.src with
  | .exi c => (match initX d.di.ps (defScope d.st) (defBody d.st) with
    | some (f, _) => He.eqO (PySem.W.findIn K (.ref (He.ga K c)) f) (some none)
    | none => true)
  | _ => true
def faX (t : TX) : List He.Fa := ((t.T.filter DX.top).map fun d => He.Fa.glo d.x) ++ (t.free.map He.Fa.free ++ (t.gl.map faGX ++ (t.ctr.map (fun p => He.Fa.mkr p.1) ++ (t.ctr.map (fun p => He.Fa.glo p.1) ++ (t.exs.map (fun p => He.Fa.glo p.1) ++ t.xb.map fun x => He.Fa.glo x)))))
def exX (t : TX) : List (Frag → Bool) := t.at_.map atB ++ (t.T.map iniB ++ (t.gl.map tupB ++ (t.exs.map (exB t.exs t.xb) ++ t.T.map exiB)))
/-- how the defs bind -/
def BindX (d : DX) : Prop := ∀ (K : PySem.W.Frag) (f : Addr) (fd : FuncData), FunD K d.x d.q (defArgs d.st) (defBody d.st) (defScope d.st) [] [] f fd → (∀ (s : Shared) (us : List Value), us.length = d.ps.length → BindsTo s fd ⟨us, []⟩ (d.ps.zip us)) ∧ ∀ q ∈ d.di.kw, KwB K fd d.di.ps q.2.1 q.1 q.2.2
/-- the table's own ends: an attribute's getter, a class's constructor -/
def TX.own (t : TX) : Prop := ((∀ p ∈ t.at_, ∀ c fi, p.2 = .prp c fi → ∃ d ∈ t.T, d.src = .prp c ∧ d.x = p.1 ∧ d.di.ix = fi ∧ d.di.ps.length = 1) ∧
  ∀ p ∈ t.at_, ∀ c fi np, p.2 = .mth c fi np → ∃ d ∈ t.T, d.src = .mth c ∧ d.x = p.1 ∧ d.di.ix = fi ∧ d.di.ps.length = np) ∧ (∀ p ∈ t.ctr, ∃ d ∈ t.T, ∃ fl, d.src = .ini p.1 fl ∧ d.di = p.2) ∧
  ∀ p ∈ t.exs, ∃ d ∈ t.T, d.src = .exi p.1 ∧ fnS d.di.ps d.di.ps (defScope d.st) = true ∧ ∃ fg ar, initX d.di.ps (defScope d.st) (defBody d.st) = some (fg, ar) ∧ ((ar = true ∧ p.2 = [fg]) ∨ (ar = false ∧ p.2 = []))
theorem look_memA {α : Type} {x : Str} {d : α} : ∀ {gl : List (Str × α)}, gl.lookup x = some d → (x, d) ∈ gl
  | [], h => by cases h
  | p :: gl, h => by
    have h : (match x == p.1 with | true => some p.2 | false => gl.lookup x) = some d := h
    split at h
    · rename_i e
      cases h
      have e := eq_of_beq e
      subst e
      exact List.mem_cons_self ..
    · exact List.mem_cons_of_mem _ (look_memA h)
theorem facts_ofX {M : Mdl} {h : Heap} {mg : Str → Option Value} {t : TX} (X : M.K.In h) (G : h.Ns mainGlobals mg) (c : Hx.SaysX (faX t) (t.T.map DX.da) (exX t) M.K) (hb : ∀ d ∈ t.T, BindX d) (hg : glOkX t.gl = true) (ho : t.own) : FactsX M mg t := by
  have fact : ∀ f ∈ faX t, f.ok M.K = true := fun f hf => by
    obtain ⟨i, hi⟩ := List.getElem?_of_mem hf
    exact c.fact i hi
  have df : ∀ d ∈ t.T, ∃ fd, FunD M.K d.x d.q (defArgs d.st) (defBody d.st) (defScope d.st) [] [] (d.ad M.K) fd := fun d hd => by
    obtain ⟨i, hi⟩ := List.getElem?_of_mem hd
    exact c.def_ i (d := d.da) (by rw [List.getElem?_map, hi]; rfl)
  have exa : ∀ p ∈ t.at_, atB p M.K = true := fun p hp => c.extra (List.mem_append_left _ (List.mem_map_of_mem hp))
  have exi : ∀ d ∈ t.T, iniB d M.K = true := fun d hd => c.extra (List.mem_append_right _ (List.mem_append_left _ (List.mem_map_of_mem hd)))
  have bnd : ∀ d ∈ t.T, ∀ {f fd}, FunD M.K d.x d.q (defArgs d.st) (defBody d.st) (defScope d.st) [] [] f fd → Binds M.K fd d.ps [] := fun d hd f fd F => fun s us _ hl => by
    rw [List.append_nil] at hl ⊢
    exact (hb d hd _ _ _ F).1 s us hl
  refine ⟨fun d hd e => ?_, fun x d e => ?_, fun x hx => ?_, fun f a e => ?_, fun x di e => ?_, fun d hd cc fl e => ?_, ?_, fun p hp => ?_⟩
  · obtain ⟨fd, F⟩ := df d hd
    have en : ∀ c fl, d.src ≠ .ini c fl := fun _ _ y => by rw [e] at y; cases y
    have ea : d.ad M.K = He.ga M.K d.x := by unfold DX.ad; rw [e]
    have b := bnd d hd F
    rw [ps_no' en] at b
    refine ⟨_, fd, F, ?_, b, (hb d hd _ _ _ F).2⟩
    rw [ea]
    exact He.glo_ok X G (fact _ (List.mem_append_left _ (List.mem_map.mpr ⟨d, List.mem_filter.mpr ⟨hd, by unfold DX.top; rw [e]⟩, rfl⟩)))
  · have hm := look_memA e
    have hk := List.all_eq_true.mp hg _ hm
    have hf := fact _ (List.mem_append_right _ (List.mem_append_right _ (List.mem_append_left _ (List.mem_map_of_mem (f := faGX) hm))))
    cases d with
    | int i =>
      obtain ⟨t, ht⟩ := He.int_ok X G hf
      exact ⟨.int i, _, ht, ⟨t, rfl⟩, fun _ _ => rfl⟩
    | str z =>
      obtain ⟨t, ht⟩ := He.str_ok X G hf
      exact ⟨.str z, _, ht, ⟨t, rfl⟩, fun _ _ => rfl⟩
    | none => cases hk
    | bool _ => cases hk
    | list _ => cases hk
    | tuple ds =>
      have z : tupB (x, .tuple ds) M.K = true := c.extra (List.mem_append_right _ (List.mem_append_right _ (List.mem_append_left _ (List.mem_map_of_mem hm))))
      exact ⟨.ref (He.ga M.K x), _, He.glo_ok X G hf, rfl, tupB_ok z⟩
    | dict _ => cases hk
  · exact He.free_ok X G (fact _ (List.mem_append_right _ (List.mem_append_left _ (List.mem_map_of_mem hx))))
  · have hm := look_memA e
    have z := exa _ hm
    cases a with
    | fld cc k =>
      have z : (Hx.sclsB cc M.K && Hx.slotB cc f k M.K) = true := z
      obtain ⟨z1, z2⟩ := He.ba z
      exact ⟨Hx.sclsB_ok z1, _, Hx.slotB_ok z2⟩
    | prp cc fi =>
      have z : (Hx.sclsB cc M.K && Hx.propB cc f M.K) = true := z
      obtain ⟨z1, z2⟩ := He.ba z
      obtain ⟨y1, y2, y3, y4⟩ := Hx.propB_ok z2
      obtain ⟨d, hd, e1, e2, e3, e4⟩ := ho.1.1 _ hm cc fi rfl
      obtain ⟨fd, F⟩ := df d hd
      have ea : d.ad M.K = Hx.getA cc f M.K := by unfold DX.ad; rw [e1]; show Hx.getA cc d.x M.K = _; rw [e2]
      have en : ∀ c fl, d.src ≠ .ini c fl := fun _ _ y => by rw [e1] at y; cases y
      have b := bnd d hd F
      rw [ps_no' en] at b
      rw [ea] at F
      exact ⟨Hx.sclsB_ok z1, _, _, y1, y2, y3, y4, d, hd, e1, e3, e4, fd, F, b⟩
    | mth cc fi np =>
      have z : (Hx.sclsB cc M.K && (He.Fa.meth cc f).ok M.K) = true := z
      obtain ⟨z1, z2⟩ := He.ba z
      obtain ⟨d, hd, e1, e2, e3, e4⟩ := ho.1.2 _ hm cc fi np rfl
      obtain ⟨fd, F⟩ := df d hd
      have ea : d.ad M.K = He.ma M.K (He.ga M.K cc) f := by unfold DX.ad; rw [e1]; show He.ma M.K (He.ga M.K cc) d.x = _; rw [e2]
      have en : ∀ c fl, d.src ≠ .ini c fl := fun _ _ y => by rw [e1] at y; cases y
      have b := bnd d hd F
      rw [ps_no' en] at b
      rw [ea] at F
      exact ⟨Hx.sclsB_ok z1, _, He.meth_ok z2, d, hd, e1, e3, e4, fd, F, b⟩
    | xfl => exact trivial
  · have hm := look_memA e
    obtain ⟨d, hd, fl, e1, e2⟩ := ho.2.1 _ hm
    obtain ⟨fd, F⟩ := df d hd
    have ea : d.ad M.K = He.ma M.K (He.ga M.K x) "__init__" := by unfold DX.ad; rw [e1]
    have h1 := fact (.mkr x) (List.mem_append_right _ (List.mem_append_right _ (List.mem_append_right _ (List.mem_append_left _ (List.mem_map.mpr ⟨_, hm, rfl⟩)))))
    have h2 := fact (.glo x) (List.mem_append_right _ (List.mem_append_right _ (List.mem_append_right _ (List.mem_append_right _ (List.mem_append_left _ (List.mem_map.mpr ⟨_, hm, rfl⟩))))))
    have b := bnd d hd F
    rw [ea] at F
    exact ⟨_, He.mkr_ok h1, He.glo_ok X G h2, d, hd, fl, e1, e2, fd, F, b⟩
  · have z := exi d hd
    unfold iniB at z
    rw [e] at z
    obtain ⟨z1, z2⟩ := He.ba z
    exact ⟨Hx.sclsB_ok z1, fun k f hf => ⟨_, Hx.slotB_ok (by have := slotsB_ok z2 k f hf; rw [Nat.zero_add] at this; exact this)⟩⟩
  · have ex : ∀ p ∈ t.exs, exB t.exs t.xb p M.K = true := fun p hp => c.extra (List.mem_append_right _ (List.mem_append_right _ (List.mem_append_right _ (List.mem_append_left _ (List.mem_map.mpr ⟨p, hp, rfl⟩)))))
    have gl1 : ∀ p ∈ t.exs, mg p.1 = some (.ref (He.ga M.K p.1)) := fun p hp => He.glo_ok X G (fact _ (List.mem_append_right _ (List.mem_append_right _ (List.mem_append_right _ (List.mem_append_right _ (List.mem_append_right _ (List.mem_append_left _ (List.mem_map.mpr ⟨p, hp, rfl⟩))))))))
    refine ⟨fun p hp => ?_, fun x hx => He.glo_ok X G (fact _ (List.mem_append_right _ (List.mem_append_right _ (List.mem_append_right _ (List.mem_append_right _ (List.mem_append_right _ (List.mem_append_right _ (List.mem_map.mpr ⟨x, hx, rfl⟩)))))))), fun p hp x hx => ?_, fun p hp => ?_⟩
    · obtain ⟨z1, z⟩ := He.ba (ex p hp)
      obtain ⟨z2, z⟩ := He.ba z
      obtain ⟨z3, z⟩ := He.ba z
      obtain ⟨z4, z⟩ := He.ba z
      exact ⟨oexB_ok z1, xfB_ok z2, exdB_ok z3, fun f hf => He.eqO_ok (List.all_eq_true.mp z4 f hf), gl1 p hp⟩
    · obtain ⟨z1, z⟩ := He.ba (ex p hp)
      obtain ⟨z2, z⟩ := He.ba z
      obtain ⟨z3, z⟩ := He.ba z
      obtain ⟨z4, z⟩ := He.ba z
      obtain ⟨z5, z⟩ := He.ba z
      have mem : x ∈ t.exs.map (·.1) ++ t.xb := by
        unfold isX at hx
        rw [Bool.or_eq_true] at hx
        rcases hx with hx | hx
        · exact List.mem_append_right _ (List.contains_iff_mem.mp hx)
        · obtain ⟨q, hq, e⟩ := List.any_eq_true.mp hx
          exact List.mem_append_left _ (List.mem_map.mpr ⟨q, hq, eq_of_beq e⟩)
      obtain ⟨y1, y2⟩ := He.ba (List.all_eq_true.mp z5 x mem)
      exact ⟨of_decide_eq_true y1, of_decide_eq_true y2⟩
    · obtain ⟨z1, z⟩ := He.ba (ex p hp)
      obtain ⟨z2, z⟩ := He.ba z
      obtain ⟨z3, z⟩ := He.ba z
      obtain ⟨z4, z⟩ := He.ba z
      obtain ⟨z5, z⟩ := He.ba z
      obtain ⟨z6, z⟩ := He.ba z
      exact of_decide_eq_true z6
  · have z := c.extra (List.mem_append_right _ (List.mem_append_right _ (List.mem_append_right _ (List.mem_append_left _ (List.mem_map.mpr ⟨p, hp, rfl⟩)))))
    obtain ⟨z1, z⟩ := He.ba z
    obtain ⟨z2, z⟩ := He.ba z
    obtain ⟨z3, z⟩ := He.ba z
    obtain ⟨z4, z⟩ := He.ba z
    obtain ⟨z5, z⟩ := He.ba z
    obtain ⟨z6, z⟩ := He.ba z
    obtain ⟨z7, z8⟩ := He.ba z
    obtain ⟨d, hd, e1, e2, fg, ar, e3, e4⟩ := ho.2.2 p hp
    obtain ⟨fd, F⟩ := df d hd
    have ea : d.ad M.K = He.ma M.K (He.ga M.K p.1) "__init__" := by unfold DX.ad; rw [e1]
    have en : ∀ c fl, d.src ≠ .ini c fl := fun _ _ y => by rw [e1] at y; cases y
    have b := bnd d hd F
    rw [ps_no' en] at b
    rw [ea] at F
    have y := c.extra (List.mem_append_right _ (List.mem_append_right _ (List.mem_append_right _ (List.mem_append_right _ (List.mem_map.mpr ⟨d, hd, rfl⟩)))))
    unfold exiB at y
    rw [e1] at y
    dsimp only at y
    rw [e3] at y
    exact ⟨d, hd, _, fd, fg, ar, F, b, e2, e3, He.eqO_ok z7, of_decide_eq_true z8, He.eqO_ok y, e4⟩
/-- a law's promise over the written part -/
theorem law_factsX {Pr : Program} {w : World} {h : Heap} {mg : Str → Option Value} {t : TX} {Pg : Prog} {d : DX} {n : Nat} {x : Str} {fa : Addr} {K : PySem.W.Frag} (X : K.In h) (G : h.Ns mainGlobals mg) (hfa : mg d.x = some (.ref fa))
    (c : Hx.SaysX (faX t) (t.T.map DX.da) (exX t) K) (hb : ∀ d ∈ t.T, BindX d) (hg : glOkX t.gl = true) (ho : t.own) (tb : TabX Pg t) (hd : d ∈ t.T) (ht : d.src = .top) (hp : d.di.ps = [x])
    (hrun : ∀ ns : List Int, ns.length ≤ 63 → ∃ ps, call Pg n d.di.ix [.rd (ns.map .int)] = .ret (.val (.bool true)) ps) :
    ∃ (K : PySem.W.Frag) (fd : FuncData) (sp : Sp), K.In h ∧ (∀ (s : Shared) (u : Value), BindsTo s fd ⟨[u], []⟩ [(x, u)]) ∧
        (∀ (H : Hp) (a : Addr) (ns : List Int), ns.length ≤ 63 → Only H → SqL K H a (ns.map V.int) → sp [.ref a] H (fun v _ => v = .bl true) fun _ _ _ => False) ∧
        ∀ base : Heap, K.In base → base.Ns mainGlobals mg → FnOk Pr w K mg base (CX Pr w) (2 * n + 2) fa fd [x] sp := by
  have F := facts_ofX (M := mkM K t.exs) X G c hb hg ho
  obtain ⟨f, fd, F1, hm, hB, _⟩ := F.fn d hd ht
  have e := hfa.symm.trans hm
  cases e
  have en : ∀ c fl, d.src ≠ .ini c fl := fun _ _ y => by rw [ht] at y; cases y
  refine ⟨K, fd, spOf (mkM K t.exs) ⟨call Pg n, Pg.fuel⟩ 1 d.di.ix, X, fun s u => ?_, fun H a ns hl hO hS => ?_, fun base _ _ => ?_⟩
  · have b := (hb d hd _ _ _ F1).1 s [u]
    rw [ps_no' en, hp] at b
    exact b rfl
  · obtain ⟨ps, hr⟩ := hrun ns hl
    exact sp_law hO hS hr
  · have q := all_okX (Pr := Pr) (w := w) (base := base) rfl F tb n d hd fa fd F1
    rw [sp_no en, ps_no' en, hp] at q
    exact q
end Ev
end
section
set_option linter.all false
set_option maxRecDepth 100000
set_option maxHeartbeats 0
namespace K03
open PySem PySem.Spec PyProof.Rows L2 Ev
def top (i : Nat) : Stmt := PySem.Challenge.pw_allbutts_k03_wrong_texts_of_runs.main.body.getD i (.Pass ⟨0, 0, 0, 0⟩)
def mth (i j : Nat) : Stmt := match top i with
  | .ClassDef _ _ _ body _ _ _ _ _ _ _ => body.getD j (.Pass ⟨0, 0, 0, 0⟩)
  | s => s
def gl : List (Str × D) := [("DIGITS", .str "0123456789"), ("BLANK", .str " "), ("SIGNS", .tuple [.str "+", .str "-"])]
def free : List Str := ["len", "abs", "int", "str", "all", "list", "tuple", "isinstance", "range", "zip", "enumerate", "bool", "ValueError"]
def d_number_in : DX := ⟨"number_in", "number_in", ⟨0, ["word"], [false], []⟩, ["word", "sign"], [], top 5, .top⟩
def d_run_in : DX := ⟨"run_in", "run_in", ⟨1, ["word"], [false], []⟩, ["word", "size"], [], top 9, .top⟩
def d_runs_from : DX := ⟨"runs_from", "runs_from", ⟨2, ["text"], [false], []⟩, ["text", "found", "place", "word", "run"], [1], top 10, .top⟩
def d__law_box : DX := ⟨"_law_box", "_law_box", ⟨3, ["_law_script", "_law_k"], [false, false], []⟩, ["_law_script", "_law_k", "_law_cell"], [], top 12, .top⟩
def d__law_take : DX := ⟨"_law_take", "_law_take", ⟨4, ["_law_box_here", "_law_size_so"], [true, false], []⟩, ["_law_box_here", "_law_size_so", "_law_some", "_law_once", "_law_far", "_law_again"], [0], top 13, .top⟩
def d__law_cells : DX := ⟨"_law_cells", "_law_cells", ⟨5, ["_law_script", "_law_top_so"], [true, false], []⟩, ["_law_script", "_law_top_so", "_law_cells_so", "_law_k", "_law_cell", "_law_at_so"], [2], top 14, .top⟩
def d__law_of : DX := ⟨"_law_of", "_law_of", ⟨6, ["_law_box_here", "_law_goods_so"], [true, false], []⟩, ["_law_box_here", "_law_goods_so"], [0], top 15, .top⟩
def d__law_same : DX := ⟨"_law_same", "_law_same", ⟨7, ["_law_got", "_law_due"], [true, true], []⟩, ["_law_got", "_law_due", "_law_mine", "_law_its"], [], top 16, .top⟩
def d__law_row : DX := ⟨"_law_row", "_law_row", ⟨8, ["_law_box_here", "_law_most_so"], [true, false], []⟩, ["_law_box_here", "_law_most_so", "_law_sizes_so", "_law_found", "_law_turn"], [0, 3], top 17, .top⟩
def d__law_row_words : DX := ⟨"_law_row_words", "_law_row_words", ⟨9, ["_law_row_so"], [false], []⟩, ["_law_row_so", "_law_own"], [], top 18, .top⟩
def d__law_heard : DX := ⟨"_law_heard", "_law_heard", ⟨10, ["_law_flat"], [false], []⟩, ["_law_flat", "_law_caught", "_law_told_so", "error_so"], [], top 19, .top⟩
def d__law_by_hand_right : DX := ⟨"_law_by_hand_right", "_law_by_hand_right", ⟨11, [], [], []⟩, ["_law_wrong", "_law_got", "_law_flat", "_law_at_so"], [], top 20, .top⟩
def d__law_case_right : DX := ⟨"_law_case_right", "_law_case_right", ⟨12, ["_law_box_here"], [true], []⟩, ["_law_box_here", "_law_row_so", "_law_pieces", "_law_k", "_law_way_so"], [0, 2], top 21, .top⟩
def d__law_right : DX := ⟨"_law_right", "_law_right", ⟨13, ["_law_box_here"], [true], []⟩, ["_law_box_here", "_law_turn"], [0], top 22, .top⟩
def d_law : DX := ⟨"law", "law", ⟨14, ["_law_script"], [true], []⟩, ["_law_script", "_law_cells_here", "_law_k"], [], top 23, .top⟩
def d_BadText_exi : DX := ⟨"__init__", "BadText.__init__", ⟨15, ["self", "piece"], [false, false], []⟩, ["self", "piece"], [], mth 2 0, .exi "BadText"⟩
abbrev xsT : ExT := [("BadText", ["piece"])]
def T : List DX := [d_number_in, d_run_in, d_runs_from, d__law_box, d__law_take, d__law_cells, d__law_of, d__law_same, d__law_row, d__law_row_words, d__law_heard, d__law_by_hand_right, d__law_case_right, d__law_right, d_law, d_BadText_exi]
def atT : List (Str × At) := [("piece", .xfl)]
def ctrT : List (Str × DI) := []
def t : TX := ⟨T, gl, free, atT, ctrT, xsT, ["ButtError"]⟩
def m_number_in : MDef := ⟨[false], 1, (sSeq (sIf (tOr (tVal (c2 (gCmp .eq) (cVar 0) (cCon (.str (S []))))) (tOr (tNot (tVal (cBi .all [(cLc (c2 (gCmp .isin) (cVar 1) (cCon (.str (S [48, 49, 50, 51, 52, 53, 54, 55, 56, 57])))) (.nm 1) (iIt (cVar 0)) none [1])]))) (tAnd (tVal (c2 (gCmp .eq) (c2 gAt (cVar 0) (cCon (.int 0))) (cCon (.str (S [48]))))) (tVal (c2 (gCmp .ne) (cVar 0) (cCon (.str (S [48])))))))) (sSeq (sRet (cCon .none) true) sPass) sPass) (sSeq (sRet (cBi .int [(cVar 0)]) true) sPass))⟩
def m_run_in : MDef := ⟨[false], 1, (sSeq (sAsg 1 (cCall 0 [.val (cSlV 0 (some (cCon (.int 1))) none)]) false) (sSeq (sIf (tOr (tVal (c2 (gCmp .isin) (cVar 1) (cTup [.one (cCon .none), .one (cCon (.int 0))]))) (tVal (c2 (gCmp .notin) (c2 gAt (cVar 0) (cCon (.int 0))) (cCon (.tuple [(.str (S [43])), (.str (S [45]))]))))) (sSeq (sRet (cCon .none) true) sPass) sPass) (sSeq (sRet (cIte (tVal (c2 (gCmp .eq) (c2 gAt (cVar 0) (cCon (.int 0))) (c2 gAt (cCon (.tuple [(.str (S [43])), (.str (S [45]))])) (cCon (.int 0))))) (cVar 1) (cNeg (cVar 1))) true) sPass)))⟩
def m_runs_from : MDef := ⟨[false], 4, (sSeq (sAsg 1 (cLst []) true) (sSeq (sFor (.tp [(.nm 2), (.nm 3)]) (iEnm (cMb .split (cVar 0) [(cCon (.str (S [32])))])) (sSeq (sAsg 4 (cIte (tVal (c2 (gCmp .ne) (cVar 3) (cCon (.str (S []))))) (cCall 1 [.val (cVar 3)]) (cCon .none)) false) (sSeq (sIf (tVal (cIsN false (cVar 4))) (sSeq (sRaiseX 0 1 [(cVar 2)]) sPass) sPass) (sSeq (sApp 1 (cVar 4)) sPass)))) (sSeq (sRet (cBiV .tuple 1) true) sPass)))⟩
def m__law_box : MDef := ⟨[false, false], 1, (sSeq (sAsg 2 (cIte (tVal (c2 (gCmp .lt) (cVar 1) (cBi .len [(cVar 0)]))) (c2 gAt (cVar 0) (cVar 1)) (cCon (.int 0))) false) (sSeq (sRet (cLst [.one (c2 (gBin .mul) (cBi .abs [(cVar 2)]) (cBi .int [(c2 (gCmp .ge) (cBi .abs [(cVar 2)]) (c2 (gBin .pow) (cCon (.int 10)) (cCon (.int 18))))])), .one (c2 (gBin .add) (c2 (gBin .add) (c2 (gBin .mod) (cBi .int [(cVar 2)]) (cCon (.int 2305843009213693951))) (c2 (gBin .mul) (cCon (.int 39373)) (cVar 1))) (cCon (.int 82503))), .one (cCon (.int 0))]) true) sPass))⟩
def m__law_take : MDef := ⟨[true, false], 4, (sSeq (sIf (tVal (c2 (gCmp .gt) (c2V gAt 0 (cCon (.int 0))) (cCon (.int 0)))) (sSeq (sAsg 2 (c2 (gBin .mod) (cBi .int [(c2V gAt 0 (cCon (.int 0)))]) (cVar 1)) false) (sSeq (sSetIx 0 (cCon (.int 0)) (c2 (gBin .fdiv) (c2V gAt 0 (cCon (.int 0))) (cVar 1))) (sSeq (sRet (cMov 2) true) sPass))) sPass) (sSeq (sSetIx 0 (cCon (.int 2)) (c2 (gBin .add) (c2V gAt 0 (cCon (.int 2))) (cCon (.int 1)))) (sSeq (sAsg 3 (c2 (gBin .mod) (cBi .int [(c2 (gBin .mul) (c2 (gBin .add) (c2V gAt 0 (cCon (.int 1))) (c2 (gBin .mul) (cCon (.int 48271)) (c2V gAt 0 (cCon (.int 2))))) (c2 (gBin .add) (cCon (.int 39373)) (c2V gAt 0 (cCon (.int 2)))))]) (cCon (.int 2147483647))) false) (sSeq (sAsg 4 (c2 (gBin .add) (c2 (gBin .mod) (cBi .int [(cVar 3)]) (cCon (.int 40009))) (cCon (.int 7))) false) (sSeq (sAsg 5 (c2 (gBin .mod) (cBi .int [(c2 (gBin .mul) (c2 (gBin .add) (c2 (gBin .add) (cVar 3) (c2V gAt 0 (cCon (.int 2)))) (c2 (gBin .fdiv) (c2V gAt 0 (cCon (.int 1))) (cCon (.int 1000003)))) (cVar 4))]) (cCon (.int 2147483629))) false) (sSeq (sRet (c2 (gBin .mod) (cBi .int [(c2 (gBin .fdiv) (c2 (gBin .mod) (cBi .int [(c2 (gBin .add) (c2 (gBin .mul) (cVar 5) (cCon (.int 48271))) (cVar 3))]) (cCon (.int 2147483587))) (cCon (.int 64)))]) (cVar 1)) true) sPass))))))⟩
def m__law_cells : MDef := ⟨[true, false], 4, (sSeq (sAsg 2 (cOr (cBi .list [(cSlV 0 none (some (cVar 1)))]) (cLst [.one (cCon (.int 0))])) true) (sSeq (sFor (.tp [(.nm 3), (.nm 4)]) (iEnm (cSlV 0 (some (cVar 1)) (some (cCon (.int 63))))) (sSeq (sAsg 5 (c2 (gBin .mod) (cBi .int [(cVar 3)]) (cVar 1)) false) (sSeq (sSetIx 2 (cVar 5) (c2 (gBin .add) (c2V gAt 2 (cVar 5)) (c2 (gBin .mul) (cVar 4) (c2 (gBin .add) (cVar 3) (cCon (.int 2)))))) sPass))) (sSeq (sRet (cMov 2) true) sPass)))⟩
def m__law_of : MDef := ⟨[true, false], 0, (sSeq (sRet (c2 gAt (cVar 1) (cCall 4 [.ref 0, .val (cBi .len [(cVar 1)])])) true) sPass)⟩
def m__law_same : MDef := ⟨[true, true], 2, (sSeq (sIf (tVal (cIsiV [.list, .tuple] 1)) (sSeq (sIf (tVal (c2 (gCmp .ne) (cIsiV [.list] 0) (cIsiV [.list] 1))) (sSeq (sRet (cCon (.bool false)) true) sPass) sPass) (sSeq (sIf (tVal (c2 (gCmp .ne) (cIsiV [.tuple] 0) (cIsiV [.tuple] 1))) (sSeq (sRet (cCon (.bool false)) true) sPass) sPass) (sSeq (sRet (cAnd (c2 (gCmp .eq) (cBiV .len 0) (cBiV .len 1)) (cBi .all [(cLc (cCall 7 [.ref 2, .ref 3]) (.tp [(.nm 2), (.nm 3)]) (iZip (cVar 0) (cVar 1)) none [2, 3])])) true) sPass))) sPass) (sSeq (sIf (tOr (tVal (cIsN false (cVar 1))) (tVal (cIsiV [.bool, .str] 1))) (sSeq (sRet (cAnd (c2V (gCmp .eq) 0 (cVar 1)) (cAnd (c2 (gCmp .eq) (cIsiV [.bool] 0) (cIsiV [.bool] 1)) (c2 (gCmp .eq) (cIsN false (cVar 0)) (cIsN false (cVar 1))))) true) sPass) sPass) (sSeq (sRet (cAnd (cIsiV [.int] 0) (cAnd (cNot (cIsiV [.bool] 0)) (c2V (gCmp .eq) 0 (cVar 1)))) true) sPass)))⟩
def m__law_row : MDef := ⟨[true, false], 3, (sSeq (sPar [2, 3] [(cLst [.one (cCon (.int 1)), .one (cCon (.int 1)), .one (cCon (.int 2)), .one (cCon (.int 3)), .one (cCon (.int 5)), .one (cCon (.int 9)), .one (c2 (gBin .add) (c2 (gBin .pow) (cCon (.int 10)) (cCon (.int 29))) (cCall 4 [.ref 0, .val (cCon (.int 9))]))]), (cLst [])] [false, true]) (sSeq (sFor (.nm 4) (iRng1 (c2 (gBin .add) (cCon (.int 1)) (cCall 4 [.ref 0, .val (cVar 1)]))) (sSeq (sApp 3 (c2 (gBin .mul) (cCall 6 [.ref 0, .val (cVar 2)]) (c2 (gBin .sub) (cCon (.int 1)) (c2 (gBin .mul) (cCon (.int 2)) (cCall 4 [.ref 0, .val (cCon (.int 2))]))))) sPass)) (sSeq (sRet (cBiV .tuple 3) true) sPass)))⟩
def m__law_row_words : MDef := ⟨[false], 1, (sSeq (sRet (cMb .join (cCon (.str (S [32]))) [(cLc (c2 (gBin .add) (cIte (tVal (c2 (gCmp .gt) (cVar 1) (cCon (.int 0)))) (cCon (.str (S [43]))) (cCon (.str (S [])))) (cBi .str [(cVar 1)])) (.nm 1) (iIt (cVar 0)) none [1])]) true) sPass)⟩
def m__law_heard : MDef := ⟨[false], 3, (sSeq (sPar [1, 2] [(cCon .none), (cCon .none)] [false, false]) (sSeq (sTry xsT [0] 3 1 (sSeq (sAsg 2 (cCall 2 [.val (cVar 0)]) false) sPass)) (sSeq (sRet (cIte (tVal (cIsN false (cVar 1))) (cVar 2) (cLst [.one (cXf xsT "piece" (cVar 1))])) true) sPass)))⟩
def m__law_by_hand_right : MDef := ⟨[], 4, (sSeq (sAsg 0 (cLst [.one (cTup [.one (cCon (.str (S []))), .one (cCon (.int 0))]), .one (cTup [.one (cCon (.str (S [32]))), .one (cCon (.int 0))]), .one (cTup [.one (cCon (.str (S [45]))), .one (cCon (.int 0))]), .one (cTup [.one (cCon (.str (S [43]))), .one (cCon (.int 0))]), .one (cTup [.one (cCon (.str (S [51]))), .one (cCon (.int 0))])]) false) (sSeq (sAsg 0 (c2 (gBin .add) (cVar 0) (cLst [.one (cTup [.one (cCon (.str (S [48]))), .one (cCon (.int 0))]), .one (cTup [.one (cCon (.str (S [43, 48]))), .one (cCon (.int 0))]), .one (cTup [.one (cCon (.str (S [45, 48]))), .one (cCon (.int 0))]), .one (cTup [.one (cCon (.str (S [43, 48, 51]))), .one (cCon (.int 0))]), .one (cTup [.one (cCon (.str (S [45, 48, 49]))), .one (cCon (.int 0))])])) false) (sSeq (sAsg 0 (c2 (gBin .add) (cVar 0) (cLst [.one (cTup [.one (cCon (.str (S [43, 43, 51]))), .one (cCon (.int 0))]), .one (cTup [.one (cCon (.str (S [43, 45, 51]))), .one (cCon (.int 0))]), .one (cTup [.one (cCon (.str (S [45, 45, 51]))), .one (cCon (.int 0))]), .one (cTup [.one (cCon (.str (S [43, 51, 43]))), .one (cCon (.int 0))]), .one (cTup [.one (cCon (.str (S [51, 43]))), .one (cCon (.int 0))])])) false) (sSeq (sAsg 0 (c2 (gBin .add) (cVar 0) (cLst [.one (cTup [.one (cCon (.str (S [43, 51, 46, 48]))), .one (cCon (.int 0))]), .one (cTup [.one (cCon (.str (S [43, 51, 10]))), .one (cCon (.int 0))]), .one (cTup [.one (cCon (.str (S [43, 49, 95, 48]))), .one (cCon (.int 0))]), .one (cTup [.one (cCon (.str (S [43, 120]))), .one (cCon (.int 0))])])) false) (sSeq (sAsg 0 (c2 (gBin .add) (cVar 0) (cLst [.one (cTup [.one (cCon (.str (S [43, 51, 32, 49]))), .one (cCon (.int 1))]), .one (cTup [.one (cCon (.str (S [43, 51, 32, 32, 45, 49]))), .one (cCon (.int 1))]), .one (cTup [.one (cCon (.str (S [32, 43, 51, 32, 45, 49]))), .one (cCon (.int 0))]), .one (cTup [.one (cCon (.str (S [43, 51, 32, 45, 49, 32]))), .one (cCon (.int 2))])])) false) (sSeq (sAsg 0 (c2 (gBin .add) (cVar 0) (cLst [.one (cTup [.one (cCon (.str (S [43, 51, 44, 32, 45, 49]))), .one (cCon (.int 0))]), .one (cTup [.one (cCon (.str (S [43, 51, 32, 59, 32, 45, 49]))), .one (cCon (.int 1))]), .one (cTup [.one (cCon (.str (S [43, 51, 32, 45]))), .one (cCon (.int 1))])])) false) (sSeq (sAsg 0 (c2 (gBin .add) (cVar 0) (cLst [.one (cTup [.one (cCon (.str (S [43, 51, 32, 45, 49, 32, 43, 48, 32, 45, 52]))), .one (cCon (.int 2))]), .one (cTup [.one (cCon (.str (S [43, 51, 32, 45, 49, 32, 50, 32, 45, 52]))), .one (cCon (.int 2))]), .one (cTup [.one (cCon (.str (S [43, 51, 32, 45, 49, 32, 43, 50, 32, 45, 32, 52]))), .one (cCon (.int 3))])])) false) (sSeq (sAsg 0 (c2 (gBin .add) (cVar 0) (cLst [.one (cTup [.one (cCon (.str (S [43, 51, 32, 45, 49, 32, 43, 50, 32, 52, 45]))), .one (cCon (.int 3))]), .one (cTup [.one (cCon (.str (S [43, 32, 51, 32, 45, 49]))), .one (cCon (.int 0))]), .one (cTup [.one (cCon (.str (S [43, 51, 32, 45, 32, 49]))), .one (cCon (.int 1))])])) false) (sSeq (sAsg 0 (c2 (gBin .add) (cVar 0) (cLst [.one (cTup [.one (cCon (.str (S [43, 51, 9, 45, 49]))), .one (cCon (.int 0))]), .one (cTup [.one (cCon (.str (S [43, 51, 45, 49]))), .one (cCon (.int 0))]), .one (cTup [.one (cCon (.str (S [43, 51, 32, 45, 49, 32, 110, 111, 110, 101]))), .one (cCon (.int 2))]), .one (cTup [.one (cCon (.str (S [42, 51]))), .one (cCon (.int 0))])])) false) (sSeq (sAsg 0 (c2 (gBin .add) (cVar 0) (cLst [.one (cTup [.one (cCon (.str (S [61, 51, 32, 45, 49]))), .one (cCon (.int 0))]), .one (cTup [.one (cCon (.str (S [97, 51]))), .one (cCon (.int 0))]), .one (cTup [.one (cCon (.str (S [48, 51, 32, 43, 49]))), .one (cCon (.int 0))]), .one (cTup [.one (cCon (.str (S [43, 49, 32, 43, 48, 48]))), .one (cCon (.int 1))])])) false) (sSeq (sAsg 1 (cLc (cCall 10 [.val (cVar 2)]) (.tp [(.nm 2), (.nm 3)]) (iIt (cVar 0)) none [2, 3]) false) (sSeq (sIf (tNot (tVal (cCall 7 [.ref 1, .val (cLc (cLst [.one (cVar 3)]) (.tp [(.nm 2), (.nm 3)]) (iIt (cVar 0)) none [2, 3])]))) (sSeq (sRet (cCon (.bool false)) true) sPass) sPass) (sSeq (sAsg 1 (cLst [.one (cCall 10 [.val (cCon (.str (S [43, 49, 48, 32, 45, 49])))]), .one (cCall 10 [.val (cCon (.str (S [45, 50, 48])))]), .one (cCall 10 [.val (cCon (.str (S [43, 49, 32, 43, 49])))]), .one (cCall 10 [.val (c2 (gBin .add) (c2 (gBin .mul) (cCon (.str (S [43, 49, 32]))) (cCon (.int 41))) (cCon (.str (S [120]))))])]) false) (sSeq (sRet (cCall 7 [.ref 1, .val (cLst [.one (cTup [.one (cCon (.int 10)), .one (cNeg (cCon (.int 1)))]), .one (cTup [.one (cNeg (cCon (.int 20)))]), .one (cTup [.one (cCon (.int 1)), .one (cCon (.int 1))]), .one (cLst [.one (cCon (.int 41))])])]) true) sPass))))))))))))))⟩
def m__law_case_right : MDef := ⟨[true], 4, (sSeq (sAsg 1 (cCall 8 [.ref 0, .val (cCon (.int 6))]) false) (sSeq (sAsg 2 (cMb .split (cCall 9 [.val (cVar 1)]) [(cCon (.str (S [32])))]) true) (sSeq (sPar [3, 4] [(cCall 4 [.ref 0, .val (cBiV .len 2)]), (cCall 4 [.ref 0, .val (cCon (.int 4))])] [false, false]) (sSeq (sIf (tVal (c2 (gCmp .eq) (cVar 4) (cCon (.int 0)))) (sSeq (sSetIx 2 (cVar 3) (c2 (gBin .add) (c2V gAt 2 (cVar 3)) (cCall 6 [.ref 0, .val (cLst [.one (cCon (.str (S [120]))), .one (cCon (.str (S [43]))), .one (cCon (.str (S [45]))), .one (cCon (.str (S [46]))), .one (cCon (.str (S [95]))), .one (cCon (.str (S [44])))])]))) sPass) (sSeq (sIf (tVal (c2 (gCmp .eq) (cVar 4) (cCon (.int 1)))) (sSeq (sSetIx 2 (cVar 3) (cSl (c2V gAt 2 (cVar 3)) (some (cCon (.int 1))) none)) sPass) (sSeq (sIf (tVal (c2 (gCmp .eq) (cVar 4) (cCon (.int 2)))) (sSeq (sSetIx 2 (cVar 3) (cCall 6 [.ref 0, .val (cLst [.one (cCon (.str (S []))), .one (cCon (.str (S [43]))), .one (cCon (.str (S [45]))), .one (cCon (.str (S [48]))), .one (cCon (.str (S [43, 48]))), .one (cCon (.str (S [97, 108, 108])))])])) sPass) (sSeq (sSetIx 2 (cVar 3) (c2 (gBin .add) (cCall 6 [.ref 0, .val (cLst [.one (cCon (.str (S [43]))), .one (cCon (.str (S [45]))), .one (cCon (.str (S [48]))), .one (cCon (.str (S [120])))])]) (c2V gAt 2 (cVar 3)))) sPass)) sPass)) sPass)) (sSeq (sRet (cCall 7 [.val (cLst [.one (cCall 10 [.val (cMb .join (cCon (.str (S [32]))) [(cVar 2)])]), .one (cCall 10 [.val (cCall 9 [.val (cVar 1)])])]), .val (cLst [.one (cLst [.one (cVar 3)]), .one (cVar 1)])]) true) sPass)))))⟩
def m__law_right : MDef := ⟨[true], 1, (sSeq (sRet (cAnd (cCall 11 []) (cBi .all [(cLc (cCall 12 [.ref 0]) (.nm 1) (iRng1 (cCon (.int 6))) none [1])])) true) sPass)⟩
def m_law : MDef := ⟨[true], 2, (sSeq (sAsg 1 (cCall 5 [.ref 0, .val (cCon (.int 3))]) false) (sSeq (sRet (cBi .all [(cLc (cCall 13 [.val (cCall 3 [.val (cVar 1), .val (cVar 2)])]) (.nm 2) (iRng1 (cBi .len [(cVar 1)])) none [2])]) true) sPass))⟩
def m_BadText_exi : MDef := ⟨[false, false], 0, (sSeq sNo sPass)⟩
def P : Prog := ⟨[m_number_in, m_run_in, m_runs_from, m__law_box, m__law_take, m__law_cells, m__law_of, m__law_same, m__law_row, m__law_row_words, m__law_heard, m__law_by_hand_right, m__law_case_right, m__law_right, m_law, m_BadText_exi], 1000⟩
theorem e_number_in : m_number_in = d_number_in.md t := by kernel_rfl
theorem e_run_in : m_run_in = d_run_in.md t := by kernel_rfl
theorem e_runs_from : m_runs_from = d_runs_from.md t := by kernel_rfl
theorem e__law_box : m__law_box = d__law_box.md t := by kernel_rfl
theorem e__law_take : m__law_take = d__law_take.md t := by kernel_rfl
theorem e__law_cells : m__law_cells = d__law_cells.md t := by kernel_rfl
theorem e__law_of : m__law_of = d__law_of.md t := by kernel_rfl
theorem e__law_same : m__law_same = d__law_same.md t := by kernel_rfl
theorem e__law_row : m__law_row = d__law_row.md t := by kernel_rfl
theorem e__law_row_words : m__law_row_words = d__law_row_words.md t := by kernel_rfl
theorem e__law_heard : m__law_heard = d__law_heard.md t := by kernel_rfl
theorem e__law_by_hand_right : m__law_by_hand_right = d__law_by_hand_right.md t := by kernel_rfl
theorem e__law_case_right : m__law_case_right = d__law_case_right.md t := by kernel_rfl
theorem e__law_right : m__law_right = d__law_right.md t := by kernel_rfl
theorem e_law : m_law = d_law.md t := by kernel_rfl
theorem e_BadText_exi : m_BadText_exi = d_BadText_exi.md t := by kernel_rfl
theorem tabD : P.defs = t.T.map fun d => d.md t := by
  show [m_number_in, m_run_in, m_runs_from, m__law_box, m__law_take, m__law_cells, m__law_of, m__law_same, m__law_row, m__law_row_words, m__law_heard, m__law_by_hand_right, m__law_case_right, m__law_right, m_law, m_BadText_exi] = [d_number_in.md t, d_run_in.md t, d_runs_from.md t, d__law_box.md t, d__law_take.md t, d__law_cells.md t, d__law_of.md t, d__law_same.md t, d__law_row.md t, d__law_row_words.md t, d__law_heard.md t, d__law_by_hand_right.md t, d__law_case_right.md t, d__law_right.md t, d_law.md t, d_BadText_exi.md t]
  rw [e_number_in, e_run_in, e_runs_from, e__law_box, e__law_take, e__law_cells, e__law_of, e__law_same, e__law_row, e__law_row_words, e__law_heard, e__law_by_hand_right, e__law_case_right, e__law_right, e_law, e_BadText_exi]
theorem tab : TabX P t where
  defs := tabD
  ix := fun d hd => by
    simp only [t, T, List.mem_cons, List.not_mem_nil, or_false] at hd
    rcases hd with rfl | rfl | rfl | rfl | rfl | rfl | rfl | rfl | rfl | rfl | rfl | rfl | rfl | rfl | rfl | rfl <;> rfl
  ok := by
    have h : (t.T.all fun d => d.ok t) = true := by decide +kernel
    exact List.all_eq_true.mp h
theorem b_number_in : BindX d_number_in := fun K f fd F => ⟨FunD.bindsA (ps := ["word"]) F fun _ _ _ _ _ _ us hl => match us, hl with | [_], _ => rfl, fun q hq => by cases hq⟩
theorem b_run_in : BindX d_run_in := fun K f fd F => ⟨FunD.bindsA (ps := ["word"]) F fun _ _ _ _ _ _ us hl => match us, hl with | [_], _ => rfl, fun q hq => by cases hq⟩
theorem b_runs_from : BindX d_runs_from := fun K f fd F => ⟨FunD.bindsA (ps := ["text"]) F fun _ _ _ _ _ _ us hl => match us, hl with | [_], _ => rfl, fun q hq => by cases hq⟩
theorem b__law_box : BindX d__law_box := fun K f fd F => ⟨FunD.bindsA (ps := ["_law_script", "_law_k"]) F fun _ _ _ _ _ _ us hl => match us, hl with | [_, _], _ => rfl, fun q hq => by cases hq⟩
theorem b__law_take : BindX d__law_take := fun K f fd F => ⟨FunD.bindsA (ps := ["_law_box_here", "_law_size_so"]) F fun _ _ _ _ _ _ us hl => match us, hl with | [_, _], _ => rfl, fun q hq => by cases hq⟩
theorem b__law_cells : BindX d__law_cells := fun K f fd F => ⟨FunD.bindsA (ps := ["_law_script", "_law_top_so"]) F fun _ _ _ _ _ _ us hl => match us, hl with | [_, _], _ => rfl, fun q hq => by cases hq⟩
theorem b__law_of : BindX d__law_of := fun K f fd F => ⟨FunD.bindsA (ps := ["_law_box_here", "_law_goods_so"]) F fun _ _ _ _ _ _ us hl => match us, hl with | [_, _], _ => rfl, fun q hq => by cases hq⟩
theorem b__law_same : BindX d__law_same := fun K f fd F => ⟨FunD.bindsA (ps := ["_law_got", "_law_due"]) F fun _ _ _ _ _ _ us hl => match us, hl with | [_, _], _ => rfl, fun q hq => by cases hq⟩
theorem b__law_row : BindX d__law_row := fun K f fd F => ⟨FunD.bindsA (ps := ["_law_box_here", "_law_most_so"]) F fun _ _ _ _ _ _ us hl => match us, hl with | [_, _], _ => rfl, fun q hq => by cases hq⟩
theorem b__law_row_words : BindX d__law_row_words := fun K f fd F => ⟨FunD.bindsA (ps := ["_law_row_so"]) F fun _ _ _ _ _ _ us hl => match us, hl with | [_], _ => rfl, fun q hq => by cases hq⟩
theorem b__law_heard : BindX d__law_heard := fun K f fd F => ⟨FunD.bindsA (ps := ["_law_flat"]) F fun _ _ _ _ _ _ us hl => match us, hl with | [_], _ => rfl, fun q hq => by cases hq⟩
theorem b__law_by_hand_right : BindX d__law_by_hand_right := fun K f fd F => ⟨FunD.bindsA (ps := []) F fun _ _ _ _ _ _ us hl => match us, hl with | [], _ => rfl, fun q hq => by cases hq⟩
theorem b__law_case_right : BindX d__law_case_right := fun K f fd F => ⟨FunD.bindsA (ps := ["_law_box_here"]) F fun _ _ _ _ _ _ us hl => match us, hl with | [_], _ => rfl, fun q hq => by cases hq⟩
theorem b__law_right : BindX d__law_right := fun K f fd F => ⟨FunD.bindsA (ps := ["_law_box_here"]) F fun _ _ _ _ _ _ us hl => match us, hl with | [_], _ => rfl, fun q hq => by cases hq⟩
theorem b_law : BindX d_law := fun K f fd F => ⟨FunD.bindsA (ps := ["_law_script"]) F fun _ _ _ _ _ _ us hl => match us, hl with | [_], _ => rfl, fun q hq => by cases hq⟩
theorem b_BadText_exi : BindX d_BadText_exi := fun K f fd F => ⟨FunD.bindsA (ps := ["self", "piece"]) F fun _ _ _ _ _ _ us hl => match us, hl with | [_, _], _ => rfl, fun q hq => by cases hq⟩
theorem bnd : ∀ d ∈ t.T, BindX d := by
  intro d hd
  simp only [t, T, List.mem_cons, List.not_mem_nil, or_false] at hd
  rcases hd with rfl | rfl | rfl | rfl | rfl | rfl | rfl | rfl | rfl | rfl | rfl | rfl | rfl | rfl | rfl | rfl
  · exact b_number_in
  · exact b_run_in
  · exact b_runs_from
  · exact b__law_box
  · exact b__law_take
  · exact b__law_cells
  · exact b__law_of
  · exact b__law_same
  · exact b__law_row
  · exact b__law_row_words
  · exact b__law_heard
  · exact b__law_by_hand_right
  · exact b__law_case_right
  · exact b__law_right
  · exact b_law
  · exact b_BadText_exi
theorem own : t.own := by
  refine ⟨⟨?_, ?_⟩, ?_, ?_⟩
  · intro p hp c fi e
    simp only [t, atT, List.mem_cons, List.not_mem_nil, or_false] at hp
    rcases hp with rfl
    · cases e
  · intro p hp c fi np e
    simp only [t, atT, List.mem_cons, List.not_mem_nil, or_false] at hp
    rcases hp with rfl
    · cases e
  · intro p hp
    simp only [t, ctrT, List.mem_cons, List.not_mem_nil, or_false] at hp
  · intro p hp
    simp only [t, xsT, List.mem_cons, List.not_mem_nil, or_false] at hp
    rcases hp with rfl
    · exact ⟨d_BadText_exi, List.mem_of_getElem? (i := 15) rfl, rfl, by decide +kernel, "piece", true, by kernel_rfl, .inl ⟨rfl, rfl⟩⟩
end K03
end
section
set_option linter.all false
set_option maxRecDepth 100000
set_option maxHeartbeats 0
namespace K03
open PySem PySem.Spec PyProof.Rows L2 Ev
abbrev RW : PySem.W.OpenRow := PySem.W.OpenLaw.row PySem.Challenge.rw_allbutts_k03_wrong_texts_of_runs
abbrev hk : PySem.W.Hook := Hx.hookX 6 (faX t) (t.T.map DX.da) (exX t)
def ob (s : PySem.W.SharedT) : Hx.AlX := Hx.obsXG 6 (faX t) (t.T.map DX.da) (exX t) (HandSHeadRun.getT s)
theorem ob_eq (s : PySem.W.SharedT) : ob s = hk.obs s.abs := Hx.obsXG_eq (HandSHeadRun.getT_eq s)
theorem run (w : World) : HandSHeadRun.RunEq RW (PySem.W.view RW.prog [23]) hk ob 6000 ((["ButtError", "BadText", "DIGITS", "number_in", "BLANK", "SIGNS", "run_in", "runs_from", "_law_box", "_law_take", "_law_cells", "_law_of", "_law_same", "_law_row", "_law_row_words", "_law_heard"] : List PySem.Str) ++ (["_law_by_hand_right", "_law_case_right", "_law_right"] : List PySem.Str)) w := by
  intro os
  kernel_rfl
end K03
end
section
set_option linter.all false
set_option maxRecDepth 100000
/-! a run in plain data, by rewriting: one law for each piece, applied to its context and its names -/
namespace Ev
open PySem
/-- an equation that is no step of reduction for simp: a proof keeps it as it is -/
theorem nr {α : Sort u} {a b : α} (h : a = b) : a = b := h
section
variable {C : Ctx} {e e' : Env} {α β : Type}
/-! ends -/
theorem bind_ok {a : α} {f : α → Env → R β} : R.bind (.ok a e) f = f a e := nr rfl
theorem bind_no {f : α → Env → R β} : R.bind (.no : R α) f = .no := nr rfl
theorem bind_exc {c : Nat} {ds : List D} {f : α → Env → R β} : R.bind (.exc c ds e : R α) f = .exc c ds e := nr rfl
theorem bind_ite {p : Prop} [Decidable p] {x y : R α} {f : α → Env → R β} : R.bind (if p then x else y) f = if p then R.bind x f else R.bind y f := by split <;> rfl
theorem opt_some {a : α} : R.opt (some a) e = .ok a e := nr rfl
theorem opt_none : R.opt (none : Option α) e = .no := nr rfl
theorem opt_ite {p : Prop} [Decidable p] {x y : Option α} : R.opt (if p then x else y) e = if p then R.opt x e else R.opt y e := by split <;> rfl
def datK : Slot → Env → R D := fun s e => R.opt s.dat e
theorem val_bind {r : R Slot} : val r = R.bind r datK := nr rfl
theorem val_okv {d : D} : val (.ok (.val d) e) = .ok d e := nr rfl
theorem val_oko {ds : List D} : val (.ok (.own ds) e) = .ok (.list ds) e := nr rfl
theorem val_no : val .no = .no := nr rfl
theorem val_exc {c : Nat} {ds : List D} : val (.exc c ds e) = .exc c ds e := nr rfl
theorem val_ite {p : Prop} [Decidable p] {x y : R Slot} : val (if p then x else y) = if p then val x else val y := by split <;> rfl
theorem opn_eq {o : Option Slot} : opn o e = R.opt o e := nr rfl
theorem flow_ok {a : α} {f : α → Env → F} : R.flow (.ok a e) f = f a e := nr rfl
theorem flow_no {f : α → Env → F} : R.flow (.no : R α) f = .no := nr rfl
theorem flow_exc {c : Nat} {ds : List D} {f : α → Env → F} : R.flow (.exc c ds e : R α) f = .exc c ds e := nr rfl
theorem flow_ite {p : Prop} [Decidable p] {x y : R α} {f : α → Env → F} : R.flow (if p then x else y) f = if p then R.flow x f else R.flow y f := by split <;> rfl
theorem seq_next {f : Env → F} : F.seq (.next e) f = f e := nr rfl
theorem seq_ret {s : Slot} {f : Env → F} : F.seq (.ret s e) f = .ret s e := nr rfl
theorem seq_brk {f : Env → F} : F.seq (.brk e) f = .brk e := nr rfl
theorem seq_cont {f : Env → F} : F.seq (.cont e) f = .cont e := nr rfl
theorem seq_exc {c : Nat} {ds : List D} {f : Env → F} : F.seq (.exc c ds e) f = .exc c ds e := nr rfl
theorem seq_no {f : Env → F} : F.seq .no f = .no := nr rfl
theorem seq_ite {p : Prop} [Decidable p] {x y : F} {f : Env → F} : F.seq (if p then x else y) f = if p then F.seq x f else F.seq y f := by split <;> rfl
theorem turn_next {f : Env → F} : F.turn (.next e) f = f e := nr rfl
theorem turn_ret {s : Slot} {f : Env → F} : F.turn (.ret s e) f = .ret s e := nr rfl
theorem turn_brk {f : Env → F} : F.turn (.brk e) f = .next e := nr rfl
theorem turn_cont {f : Env → F} : F.turn (.cont e) f = f e := nr rfl
theorem turn_exc {c : Nat} {ds : List D} {f : Env → F} : F.turn (.exc c ds e) f = .exc c ds e := nr rfl
theorem turn_ite {p : Prop} [Decidable p] {x y : F} {f : Env → F} : F.turn (if p then x else y) f = if p then F.turn x f else F.turn y f := by split <;> rfl
theorem done_next {rp : List Bool} : F.done rp (.next e) = .ret (.val .none) (maskP rp e) := nr rfl
theorem done_ret {rp : List Bool} {s : Slot} : F.done rp (.ret s e) = .ret s (maskP rp e) := nr rfl
theorem done_exc {rp : List Bool} {c : Nat} {ds : List D} : F.done rp (.exc c ds e) = .exc c ds (maskP rp e) := nr rfl
theorem done_ite {rp : List Bool} {p : Prop} [Decidable p] {x y : F} : F.done rp (if p then x else y) = if p then F.done rp x else F.done rp y := by split <;> rfl
theorem mask_nil : maskP [] e = [] := nr rfl
theorem mask_t {bs : List Bool} {s : Option Slot} : maskP (true :: bs) (s :: e) = s :: maskP bs e := nr rfl
theorem mask_f {bs : List Bool} {s : Option Slot} : maskP (false :: bs) (s :: e) = none :: maskP bs e := nr rfl
theorem orNo_some {r : F} : orNo (some r) = r := nr rfl
theorem orNo_none : orNo none = .no := nr rfl
/-! names -/
theorem getS_z {s : Option Slot} : getS (s :: e) 0 = s := by unfold getS; cases s <;> rfl
theorem getS_s {s : Option Slot} {i : Nat} : getS (s :: e) (i + 1) = getS e i := nr rfl
def rdV : Option Slot → Nat → Env → R Slot
  | some (.val d), _, e => .ok (.val d) e
  | some (.own ds), i, e => .ok (.val (.list ds)) (e.set i (some (.val (.list ds))))
  | _, _, _ => .no
theorem cVar_ap {i : Nat} : cVar i C e = rdV (getS e i) i e := by
  unfold cVar rdV
  cases getS e i with
  | none => rfl
  | some s => cases s <;> rfl
theorem rdV_val {d : D} {i : Nat} : rdV (some (.val d)) i e = .ok (.val d) e := nr rfl
theorem rdV_own {ds : List D} {i : Nat} : rdV (some (.own ds)) i e = .ok (.val (.list ds)) (e.set i (some (.val (.list ds)))) := nr rfl
def rdM : Option Slot → Nat → Env → R Slot
  | some (.own ds), i, e => .ok (.own ds) (e.set i none)
  | some (.val d), _, e => .ok (.val d) e
  | _, _, _ => .no
theorem cMov_ap {i : Nat} : cMov i C e = rdM (getS e i) i e := by
  unfold cMov rdM
  cases getS e i with
  | none => rfl
  | some s => cases s <;> rfl
theorem rdM_val {d : D} {i : Nat} : rdM (some (.val d)) i e = .ok (.val d) e := nr rfl
theorem rdM_own {ds : List D} {i : Nat} : rdM (some (.own ds)) i e = .ok (.own ds) (e.set i none) := nr rfl
theorem dat_val {d : D} : Slot.dat (.val d) = some d := nr rfl
theorem dat_own {ds : List D} : Slot.dat (.own ds) = some (.list ds) := nr rfl
def datS : Option Slot → Option D
  | some s => s.dat
  | none => none
theorem datV_eq {i : Nat} : datV e i = datS (getS e i) := by unfold datV datS; cases getS e i <;> rfl
theorem datS_val {d : D} : datS (some (.val d)) = some d := nr rfl
theorem datS_own {ds : List D} : datS (some (.own ds)) = some (.list ds) := nr rfl
def datSR : Option Slot → Option D
  | some (.rd ds) => some (.list ds)
  | some (.own ds) => some (.list ds)
  | some (.val d) => some d
  | none => none
theorem datR_eq {i : Nat} : datR e i = datSR (getS e i) := by unfold datR datSR; cases getS e i with
  | none => rfl
  | some s => cases s <;> rfl
theorem datSR_val {d : D} : datSR (some (.val d)) = some d := nr rfl
theorem datSR_own {ds : List D} : datSR (some (.own ds)) = some (.list ds) := nr rfl
theorem datSR_rd {ds : List D} : datSR (some (.rd ds)) = some (.list ds) := nr rfl
/-! expressions -/
theorem cCon_ap {d : D} : cCon d C e = .ok (.val d) e := nr rfl
def cValK : D → Env → R Slot := fun d e => .ok (.val d) e
theorem cVal_ap {m : Ex} : cVal m C e = (val (m C e)).bind cValK := nr rfl
theorem cValK_ap {d : D} : cValK d e = .ok (.val d) e := nr rfl
def c1K (g : D → Option Slot) : D → Env → R Slot := fun x e => opn (g x) e
theorem c1_ap {g : D → Option Slot} {a : Ex} : c1 g a C e = (val (a C e)).bind (c1K g) := nr rfl
theorem c1K_ap {g : D → Option Slot} {x : D} : c1K g x e = R.opt (g x) e := nr rfl
def c2K (g : D → D → Option Slot) (b : Ex) (C : Ctx) : D → Env → R Slot := fun x e => (val (b C e)).bind (c1K (g x))
theorem c2_ap {g : D → D → Option Slot} {a b : Ex} : c2 g a b C e = (val (a C e)).bind (c2K g b C) := nr rfl
theorem c2K_ap {g : D → D → Option Slot} {b : Ex} {x : D} : c2K g b C x e = (val (b C e)).bind (c1K (g x)) := nr rfl
def gO (g : D → Option Slot) : Option D → Option Slot
  | some d => g d
  | none => none
theorem gO_some {g : D → Option Slot} {d : D} : gO g (some d) = g d := nr rfl
theorem c1V_ap {g : D → Option Slot} {i : Nat} : c1V g i C e = R.opt (gO g (datS (getS e i))) e := by
  unfold c1V; rw [datV_eq]; cases datS (getS e i) <;> rfl
def c2VK (g : D → D → Option Slot) (i : Nat) : D → Env → R Slot := fun y e => R.opt (gO (g · y) (datS (getS e i))) e
def c2V0 (g : D → D → Option Slot) (i : Nat) (b : Ex) (C : Ctx) (e : Env) : Option Slot → R Slot
  | some _ => (val (b C e)).bind (c2VK g i)
  | none => .no
theorem c2V_ap {g : D → D → Option Slot} {i : Nat} {b : Ex} : c2V g i b C e = c2V0 g i b C e (getS e i) := by
  have h : c2VK g i = fun y e => opn ((datV e i).bind (g · y)) e := by
    funext y e; unfold c2VK opn; rw [datV_eq]; cases datS (getS e i) <;> rfl
  unfold c2V c2V0
  cases getS e i with
  | none => rfl
  | some s => rw [h]; rfl
theorem c2V0_some {g : D → D → Option Slot} {i : Nat} {b : Ex} {s : Slot} : c2V0 g i b C e (some s) = (val (b C e)).bind (c2VK g i) := nr rfl
theorem c2VK_ap {g : D → D → Option Slot} {i : Nat} {y : D} : c2VK g i y e = R.opt (gO (g · y) (datS (getS e i))) e := nr rfl
def c2WK (g : D → D → Option Slot) (i : Nat) : D → Env → R Slot := fun x e => R.opt (gO (g x) (datS (getS e i))) e
theorem c2W_ap {g : D → D → Option Slot} {i : Nat} {a : Ex} : c2W g a i C e = (val (a C e)).bind (c2WK g i) := by
  have h : c2WK g i = fun x e => opn ((datV e i).bind (g x)) e := by
    funext y e; unfold c2WK opn; rw [datV_eq]; cases datS (getS e i) <;> rfl
  rw [h]; rfl
theorem c2WK_ap {g : D → D → Option Slot} {i : Nat} {y : D} : c2WK g i y e = R.opt (gO (g y) (datS (getS e i))) e := nr rfl
theorem bl_some {b : Bool} : bl (some b) = some (.val (.bool b)) := nr rfl
theorem cBin_eq {op : BOp} {a b : Ex} : cBin op a b C e = c2 (gBin op) a b C e := nr rfl
theorem cNeg_eq {a : Ex} : cNeg a C e = c1 negD a C e := nr rfl
theorem cNot_eq {a : Ex} : cNot a C e = c1 gNot a C e := nr rfl
theorem cCmp_eq {op : COp} {a b : Ex} : cCmp op a b C e = c2 (gCmp op) a b C e := nr rfl
theorem cIsN_eq {b : Bool} {a : Ex} : cIsN b a C e = c1 (gIsN b) a C e := nr rfl
theorem cSub_eq {a b : Ex} : cSub a b C e = c2 gAt a b C e := nr rfl
theorem cSubV_eq {i : Nat} {b : Ex} : cSubV i b C e = c2V gAt i b C e := nr rfl
theorem cRev_eq {a : Ex} : cRev a C e = c1 revD a C e := nr rfl
theorem cRevV_eq {i : Nat} : cRevV i C e = c1V revD i C e := nr rfl
theorem cInV_eq {op : COp} {a : Ex} {i : Nat} : cInV op a i C e = c2W (gCmp op) a i C e := nr rfl
theorem cIsi_eq {ts : List Ty} {a : Ex} : cIsi ts a C e = c1 (gIsi ts) a C e := nr rfl
theorem cIsiV_eq {ts : List Ty} {i : Nat} : cIsiV ts i C e = c1V (gIsi ts) i C e := nr rfl
theorem cBiV_ap {b : BI} {i : Nat} : cBiV b i C e = R.opt (gO (fun d => biD b [d]) (datS (getS e i))) e := c1V_ap
def chnK2 (o2 : COp) (y : D) : D → Env → R Slot := fun z e => opn ((cmpD o2 y z).map fun b => .val (.bool b)) e
def chnK1 (o2 : COp) (c : Ex) (C : Ctx) (y : D) : Bool → Env → R Slot := fun k e => if k then (val (c C e)).bind (chnK2 o2 y) else .ok (.val (.bool false)) e
def chnKy (o1 o2 : COp) (c : Ex) (C : Ctx) (x : D) : D → Env → R Slot := fun y e => (R.opt (cmpD o1 x y) e).bind (chnK1 o2 c C y)
def chnKx (o1 o2 : COp) (b c : Ex) (C : Ctx) : D → Env → R Slot := fun x e => (val (b C e)).bind (chnKy o1 o2 c C x)
theorem cChn_ap {o1 o2 : COp} {a b c : Ex} : cChn o1 o2 a b c C e = (val (a C e)).bind (chnKx o1 o2 b c C) := nr rfl
theorem chnKx_ap {o1 o2 : COp} {b c : Ex} {x : D} : chnKx o1 o2 b c C x e = (val (b C e)).bind (chnKy o1 o2 c C x) := nr rfl
theorem chnKy_ap {o1 o2 : COp} {c : Ex} {x y : D} : chnKy o1 o2 c C x y e = (R.opt (cmpD o1 x y) e).bind (chnK1 o2 c C y) := nr rfl
theorem chnK1_ap {o2 : COp} {c : Ex} {y : D} {k : Bool} : chnK1 o2 c C y k e = if k = true then (val (c C e)).bind (chnK2 o2 y) else .ok (.val (.bool false)) e := nr rfl
theorem chnK2_ap {o2 : COp} {y z : D} : chnK2 o2 y z e = R.opt (bl (cmpD o2 y z)) e := nr rfl
def andK2 (b : Ex) (C : Ctx) (s : D) : Bool → Env → R Slot := fun k e => if k then b C e else .ok (.val s) e
def andK (b : Ex) (C : Ctx) : D → Env → R Slot := fun s e => (R.opt (truthD s) e).bind (andK2 b C s)
theorem cAnd_ap {a b : Ex} : cAnd a b C e = (val (a C e)).bind (andK b C) := nr rfl
theorem andK_ap {b : Ex} {s : D} : andK b C s e = (R.opt (truthD s) e).bind (andK2 b C s) := nr rfl
theorem andK2_ap {b : Ex} {s : D} {k : Bool} : andK2 b C s k e = if k = true then b C e else .ok (.val s) e := nr rfl
def orK2 (b : Ex) (C : Ctx) (s : Slot) : Bool → Env → R Slot := fun k e => if k then .ok s e else b C e
def orK (b : Ex) (C : Ctx) : Slot → Env → R Slot := fun s e => (R.opt (s.dat.bind truthD) e).bind (orK2 b C s)
theorem cOr_ap {a b : Ex} : cOr a b C e = (a C e).bind (orK b C) := nr rfl
theorem orK_val {b : Ex} {s : D} : orK b C (.val s) e = (R.opt (truthD s) e).bind (orK2 b C (.val s)) := nr rfl
theorem orK_own {b : Ex} {s : List D} : orK b C (.own s) e = (R.opt (truthD (.list s)) e).bind (orK2 b C (.own s)) := nr rfl
theorem orK2_ap {b : Ex} {s : Slot} {k : Bool} : orK2 b C s k e = if k = true then .ok s e else b C e := nr rfl
def iteK (a b : Ex) (C : Ctx) : Bool → Env → R Slot := fun k e => if k then a C e else b C e
theorem cIte_ap {c : Tx} {a b : Ex} : cIte c a b C e = (c C e).bind (iteK a b C) := nr rfl
theorem iteK_ap {a b : Ex} {k : Bool} : iteK a b C k e = if k = true then a C e else b C e := nr rfl
/-! several values -/
def consK {γ : Type} (x : γ) : List γ → Env → R (List γ) := fun ds e => .ok (x :: ds) e
theorem consK_ap {γ : Type} {x : γ} {ds : List γ} : consK x ds e = .ok (x :: ds) e := nr rfl
def appK (x : List D) : List D → Env → R (List D) := fun ds e => .ok (x ++ ds) e
theorem appK_ap {x ds : List D} : appK x ds e = .ok (x ++ ds) e := nr rfl
theorem evs_nil : evs C [] e = .ok [] e := nr rfl
def evsK (C : Ctx) (ms : List Ex) : D → Env → R (List D) := fun x e => (evs C ms e).bind (consK x)
theorem evs_cons {m : Ex} {ms : List Ex} : evs C (m :: ms) e = (val (m C e)).bind (evsK C ms) := nr rfl
theorem evsK_ap {ms : List Ex} {x : D} : evsK C ms x e = (evs C ms e).bind (consK x) := nr rfl
theorem evI_nil : evItems C [] e = .ok [] e := nr rfl
def evIK (C : Ctx) (ms : List Item) : D → Env → R (List D) := fun x e => (evItems C ms e).bind (consK x)
theorem evI_one {m : Ex} {ms : List Item} : evItems C (.one m :: ms) e = (val (m C e)).bind (evIK C ms) := nr rfl
theorem evIK_ap {ms : List Item} {x : D} : evIK C ms x e = (evItems C ms e).bind (consK x) := nr rfl
def evIA (C : Ctx) (ms : List Item) : List D → Env → R (List D) := fun x e => (evItems C ms e).bind (appK x)
theorem evIA_ap {ms : List Item} {x : List D} : evIA C ms x e = (evItems C ms e).bind (appK x) := nr rfl
def evIS (C : Ctx) (ms : List Item) : D → Env → R (List D) := fun x e => (R.opt (seqD x) e).bind (evIA C ms)
theorem evI_star {m : Ex} {ms : List Item} : evItems C (.star m :: ms) e = (val (m C e)).bind (evIS C ms) := nr rfl
theorem evIS_ap {ms : List Item} {x : D} : evIS C ms x e = (R.opt (seqD x) e).bind (evIA C ms) := nr rfl
def seqO : Option D → Option (List D)
  | some d => seqD d
  | none => none
theorem seqO_some {d : D} : seqO (some d) = seqD d := nr rfl
theorem evI_starV {i : Nat} {ms : List Item} : evItems C (.starV i :: ms) e = (R.opt (seqO (datS (getS e i))) e).bind (evIA C ms) := by
  show (R.opt ((datV e i).bind seqD) e).bind _ = _
  rw [datV_eq]; cases datS (getS e i) <;> rfl
theorem seqD_l {xs : List D} : seqD (.list xs) = some xs := nr rfl
theorem seqD_t {xs : List D} : seqD (.tuple xs) = some xs := nr rfl
def lstK : List D → Env → R Slot := fun ds e => if decide (ds.length ≤ sizeLine) then .ok (.own ds) e else .no
theorem cLst_ap {es : List Item} : cLst es C e = (evItems C es e).bind lstK := nr rfl
theorem lstK_ap {ds : List D} : lstK ds e = if ds.length ≤ sizeLine then .ok (.own ds) e else .no := by unfold lstK; simp only [decide_eq_true_eq]
def tupK : List D → Env → R Slot := fun ds e => if decide (ds.length ≤ sizeLine) then .ok (.val (.tuple ds)) e else .no
theorem cTup_ap {es : List Item} : cTup es C e = (evItems C es e).bind tupK := nr rfl
theorem tupK_ap {ds : List D} : tupK ds e = if ds.length ≤ sizeLine then .ok (.val (.tuple ds)) e else .no := by unfold tupK; simp only [decide_eq_true_eq]
theorem evO_none : evO C none e = .ok none e := nr rfl
def someK : Int → Env → R (Option Int) := fun i e => .ok (some i) e
theorem someK_ap {i : Int} : someK i e = .ok (some i) e := nr rfl
def evOK : D → Env → R (Option Int) := fun x e => (R.opt (intO x) e).bind someK
theorem evO_some {m : Ex} : evO C (some m) e = (val (m C e)).bind evOK := nr rfl
theorem evOK_ap {x : D} : evOK x e = (R.opt (intO x) e).bind someK := nr rfl
theorem intO_i {i : Int} : intO (.int i) = some i := nr rfl
def slK3 (x : D) (l : Option Int) : Option Int → Env → R Slot := fun h e => opn (slD x l h) e
def slK2 (hi : Option Ex) (C : Ctx) (x : D) : Option Int → Env → R Slot := fun l e => (evO C hi e).bind (slK3 x l)
def slK1 (lo hi : Option Ex) (C : Ctx) : D → Env → R Slot := fun x e => (evO C lo e).bind (slK2 hi C x)
theorem cSl_ap {o : Ex} {lo hi : Option Ex} : cSl o lo hi C e = (val (o C e)).bind (slK1 lo hi C) := nr rfl
theorem slK1_ap {lo hi : Option Ex} {x : D} : slK1 lo hi C x e = (evO C lo e).bind (slK2 hi C x) := nr rfl
theorem slK2_ap {hi : Option Ex} {x : D} {l : Option Int} : slK2 hi C x l e = (evO C hi e).bind (slK3 x l) := nr rfl
theorem slK3_ap {x : D} {l h : Option Int} : slK3 x l h e = R.opt (slD x l h) e := nr rfl
def slVK2 (i : Nat) (l : Option Int) : Option Int → Env → R Slot := fun h e => R.opt (gO (slD · l h) (datSR (getS e i))) e
def slVK1 (hi : Option Ex) (C : Ctx) (i : Nat) : Option Int → Env → R Slot := fun l e => (evO C hi e).bind (slVK2 i l)
def slV0 (i : Nat) (lo hi : Option Ex) (C : Ctx) (e : Env) : Option Slot → R Slot
  | some _ => (evO C lo e).bind (slVK1 hi C i)
  | none => .no
theorem cSlV_ap {i : Nat} {lo hi : Option Ex} : cSlV i lo hi C e = slV0 i lo hi C e (getS e i) := by
  have h : ∀ l, slVK2 i l = fun h e => opn ((datR e i).bind (slD · l h)) e := by
    intro l; funext h e; unfold slVK2 opn; rw [datR_eq]; cases datSR (getS e i) <;> rfl
  have h1 : slVK1 hi C i = fun l e => (evO C hi e).bind fun h e => opn ((datR e i).bind (slD · l h)) e := by
    funext l e; unfold slVK1; rw [h]
  unfold cSlV slV0
  cases getS e i with
  | none => rfl
  | some s => rw [h1]; rfl
theorem slV0_some {i : Nat} {lo hi : Option Ex} {s : Slot} : slV0 i lo hi C e (some s) = (evO C lo e).bind (slVK1 hi C i) := nr rfl
theorem slVK1_ap {hi : Option Ex} {i : Nat} {l : Option Int} : slVK1 hi C i l e = (evO C hi e).bind (slVK2 i l) := nr rfl
theorem slVK2_ap {i : Nat} {l h : Option Int} : slVK2 i l h e = R.opt (gO (slD · l h) (datSR (getS e i))) e := nr rfl
def biK (b : BI) : List D → Env → R Slot := fun ds e => opn (biD b ds) e
theorem cBi_ap {b : BI} {as : List Ex} : cBi b as C e = (evs C as e).bind (biK b) := nr rfl
theorem biK_ap {b : BI} {ds : List D} : biK b ds e = R.opt (biD b ds) e := nr rfl
def rg1K (tp : Bool) : D → Env → R Slot := fun x e => R.opt (rgS tp (rangeD [x])) e
theorem cRg1_ap {tp : Bool} {a : Ex} : cRg1 tp a C e = (val (a C e)).bind (rg1K tp) := nr rfl
theorem rngL_len {lo : Int} {n : Nat} : (rngL lo n).length = n := by unfold rngL; rw [List.length_map, List.length_range]
theorem rgS_some {tp : Bool} {l : List D} (h : l.length ≤ 16777216) : rgS tp (some l) = some (if tp then .val (.tuple l) else .own l) := if_pos (decide_eq_true h)
theorem rgS_not {tp : Bool} {l : List D} (h : ¬ l.length ≤ 16777216) : rgS tp (some l) = none := if_neg fun q => h (of_decide_eq_true q)
theorem rg1K_ap {tp : Bool} {j : Int} : rg1K tp (.int j) e = if rngOk j = true ∧ j.toNat ≤ 16777216 then .ok (if tp then .val (.tuple (rngL 0 j.toNat)) else .own (rngL 0 j.toNat)) e else .no := by
  show R.opt (rgS tp (if rngOk j = true then _ else _)) e = _
  split
  · rename_i h
    split
    · rename_i h2
      rw [rgS_some (by rw [rngL_len]; exact h2.2)]; rfl
    · rename_i h2
      rw [rgS_not (by rw [rngL_len]; exact fun q => h2 ⟨h, q⟩)]; rfl
  · rename_i h
    rw [if_neg fun q => h q.1]; rfl
theorem rg1K_f {j : Int} : rg1K false (.int j) e = if rngOk j = true ∧ j.toNat ≤ 16777216 then .ok (.own (rngL 0 j.toNat)) e else .no := rg1K_ap
theorem rg1K_t {j : Int} : rg1K true (.int j) e = if rngOk j = true ∧ j.toNat ≤ 16777216 then .ok (.val (.tuple (rngL 0 j.toNat))) e else .no := rg1K_ap
def rg2K2 (tp : Bool) (x : D) : D → Env → R Slot := fun y e => R.opt (rgS tp (rangeD [x, y])) e
def rg2K (tp : Bool) (b : Ex) (C : Ctx) : D → Env → R Slot := fun x e => (val (b C e)).bind (rg2K2 tp x)
theorem cRg2_ap {tp : Bool} {a b : Ex} : cRg2 tp a b C e = (val (a C e)).bind (rg2K tp b C) := nr rfl
theorem rg2K_ap {tp : Bool} {b : Ex} {x : D} : rg2K tp b C x e = (val (b C e)).bind (rg2K2 tp x) := nr rfl
theorem rg2K2_ap {tp : Bool} {i j : Int} : rg2K2 tp (.int i) (.int j) e = if (rngOk i = true ∧ rngOk j = true) ∧ (j - i).toNat ≤ 16777216 then .ok (if tp then .val (.tuple (rngL i (j - i).toNat)) else .own (rngL i (j - i).toNat)) e else .no := by
  show R.opt (rgS tp (if (rngOk i && rngOk j) = true then _ else _)) e = _
  simp only [Bool.and_eq_true]
  split
  · rename_i h
    split
    · rename_i h2
      rw [rgS_some (by rw [rngL_len]; exact h2.2)]; rfl
    · rename_i h2
      rw [rgS_not (by rw [rngL_len]; exact fun q => h2 ⟨h, q⟩)]; rfl
  · rename_i h
    rw [if_neg fun q => h q.1]; rfl
theorem rg2K2_f {i j : Int} : rg2K2 false (.int i) (.int j) e = if (rngOk i = true ∧ rngOk j = true) ∧ (j - i).toNat ≤ 16777216 then .ok (.own (rngL i (j - i).toNat)) e else .no := rg2K2_ap
theorem rg2K2_t {i j : Int} : rg2K2 true (.int i) (.int j) e = if (rngOk i = true ∧ rngOk j = true) ∧ (j - i).toNat ≤ 16777216 then .ok (.val (.tuple (rngL i (j - i).toNat))) e else .no := rg2K2_ap
/-! calls -/
theorem evA_nil : evA C [] e = .ok [] e := nr rfl
def evA0 (C : Ctx) (ms : List Arg) (e : Env) : Option Slot → R (List Slot)
  | some _ => evA C ms e
  | none => .no
theorem evA_ref {i : Nat} {ms : List Arg} : evA C (.ref i :: ms) e = evA0 C ms e (getS e i) := by
  show (R.opt (getS e i) e).bind _ = _
  cases getS e i <;> rfl
theorem evA0_some {ms : List Arg} {s : Slot} : evA0 C ms e (some s) = evA C ms e := nr rfl
def evAK (C : Ctx) (ms : List Arg) : Slot → Env → R (List Slot) := fun s e => (evA C ms e).bind (consK s)
theorem evA_val {m : Ex} {ms : List Arg} : evA C (.val m :: ms) e = (m C e).bind (evAK C ms) := nr rfl
theorem evAK_ap {ms : List Arg} {s : Slot} : evAK C ms s e = (evA C ms e).bind (consK s) := nr rfl
def callK2 (f : Nat) (as : List Arg) (C : Ctx) : List Slot → Env → R Slot := fun us e => back as e (C.call f us)
def callK (f : Nat) (as : List Arg) (C : Ctx) : List Slot → Env → R Slot := fun ss e => (R.opt (atCall as ss e) e).bind (callK2 f as C)
theorem cCall_ap {f : Nat} {as : List Arg} : cCall f as C e = (evA C as e).bind (callK f as C) := nr rfl
theorem callK_ap {f : Nat} {as : List Arg} {ss : List Slot} : callK f as C ss e = (R.opt (atCall as ss e) e).bind (callK2 f as C) := nr rfl
theorem callK2_ap {f : Nat} {as : List Arg} {us : List Slot} : callK2 f as C us e = back as e (C.call f us) := nr rfl
theorem back_ret {as : List Arg} {s : Slot} {ps : List (Option Slot)} : back as e (.ret s ps) = .ok s (putBack as ps e) := nr rfl
theorem back_exc {as : List Arg} {c : Nat} {ds : List D} {ps : List (Option Slot)} : back as e (.exc c ds ps) = .exc c ds (putBack as ps e) := nr rfl
theorem putBack_nil {ps : List (Option Slot)} : putBack [] ps e = e := by cases ps <;> rfl
theorem putBack_ref {i : Nat} {as : List Arg} {p : Option Slot} {ps : List (Option Slot)} : putBack (.ref i :: as) (p :: ps) e = putBack as ps (e.set i p) := nr rfl
theorem putBack_val {m : Ex} {as : List Arg} {p : Option Slot} {ps : List (Option Slot)} : putBack (.val m :: as) (p :: ps) e = putBack as ps e := nr rfl
theorem atCall_nil {ss : List Slot} : atCall [] ss e = some [] := by cases ss <;> rfl
def atC0 (as : List Arg) (ss : List Slot) (e : Env) : Option Slot → Option (List Slot)
  | some s => (atCall as ss e).map (s :: ·)
  | none => none
theorem atCall_ref {i : Nat} {as : List Arg} {ss : List Slot} : atCall (.ref i :: as) ss e = atC0 as ss e (getS e i) := by
  show (getS e i).bind _ = _
  cases getS e i <;> rfl
def consO (s : Slot) : Option (List Slot) → Option (List Slot)
  | some l => some (s :: l)
  | none => none
theorem consO_some {s : Slot} {l : List Slot} : consO s (some l) = some (s :: l) := nr rfl
theorem atC0_some {as : List Arg} {ss : List Slot} {s : Slot} : atC0 as ss e (some s) = consO s (atCall as ss e) := by
  show (atCall as ss e).map _ = _
  cases atCall as ss e <;> rfl
theorem atCall_val {m : Ex} {as : List Arg} {s : Slot} {ss : List Slot} : atCall (.val m :: as) (s :: ss) e = consO s (atCall as ss e) := by
  show (atCall as ss e).map _ = _
  cases atCall as ss e <;> rfl
def callKK2 (f : Nat) (C : Ctx) : List Slot → Env → R Slot := fun us e => back [] e (C.call f us)
def callKK (f : Nat) (p : List Nat) (C : Ctx) : List D → Env → R Slot := fun ss e => (R.opt (permute p ss) e).bind (callKK2 f C)
theorem cCallK_ap {f : Nat} {as : List Ex} {p : List Nat} : cCallK f as p C e = (evs C as e).bind (callKK f p C) := nr rfl
theorem callKK_ap {f : Nat} {p : List Nat} {ss : List D} : callKK f p C ss e = (R.opt (permute p ss) e).bind (callKK2 f C) := nr rfl
theorem callKK2_ap {f : Nat} {us : List Slot} : callKK2 f C us e = back [] e (C.call f us) := nr rfl
theorem perm_nil {ss : List D} : permute [] ss = some [] := nr rfl
def permC (p : List Nat) (ss : List D) : Option D → Option (List Slot)
  | some d => consO (.val d) (permute p ss)
  | none => none
theorem permC_some {p : List Nat} {ss : List D} {d : D} : permC p ss (some d) = consO (.val d) (permute p ss) := nr rfl
theorem perm_cons {i : Nat} {p : List Nat} {ss : List D} : permute (i :: p) ss = permC p ss ss[i]? := by
  unfold permute
  rw [List.mapM_cons]
  cases ss[i]? with
  | none => rfl
  | some d =>
    show (some (Slot.val d)).bind _ = _
    simp only [Option.bind_some]
    unfold permC permute
    cases List.mapM (fun i => Option.map Slot.val ss[i]?) p <;> rfl
/-! tests -/
def tvK : D → Env → R Bool := fun x e => R.opt (truthD x) e
theorem tVal_ap {m : Ex} : tVal m C e = (val (m C e)).bind tvK := nr rfl
theorem tvK_ap {x : D} : tvK x e = R.opt (truthD x) e := nr rfl
def tAndK (b : Tx) (C : Ctx) : Bool → Env → R Bool := fun k e => if k then b C e else .ok false e
theorem tAnd_ap {a b : Tx} : tAnd a b C e = (a C e).bind (tAndK b C) := nr rfl
theorem tAndK_ap {b : Tx} {k : Bool} : tAndK b C k e = if k = true then b C e else .ok false e := nr rfl
def tOrK (b : Tx) (C : Ctx) : Bool → Env → R Bool := fun k e => if k then .ok true e else b C e
theorem tOr_ap {a b : Tx} : tOr a b C e = (a C e).bind (tOrK b C) := nr rfl
theorem tOrK_ap {b : Tx} {k : Bool} : tOrK b C k e = if k = true then .ok true e else b C e := nr rfl
def tNotK : Bool → Env → R Bool := fun k e => .ok (!k) e
theorem tNot_ap {a : Tx} : tNot a C e = (a C e).bind tNotK := nr rfl
theorem tNotK_ap {k : Bool} : tNotK k e = .ok (!k) e := nr rfl
/-! what is walked -/
def itK : D → Env → R (List D) := fun x e => R.opt (itemsD x) e
theorem iIt_ap {m : Ex} : iIt m C e = (val (m C e)).bind itK := nr rfl
theorem itK_ap {x : D} : itK x e = R.opt (itemsD x) e := nr rfl
theorem items_l {xs : List D} : itemsD (.list xs) = some xs := nr rfl
theorem items_t {xs : List D} : itemsD (.tuple xs) = some xs := nr rfl
def r1K : D → Env → R (List D) := fun x e => R.opt (rangeD [x]) e
theorem iRng1_ap {a : Ex} : iRng1 a C e = (val (a C e)).bind r1K := nr rfl
theorem r1K_ap {j : Int} : r1K (.int j) e = if rngOk j = true then .ok (rngL 0 j.toNat) e else .no := by
  show R.opt (if rngOk j = true then _ else _) e = _
  split <;> rfl
def r2K (x : D) : D → Env → R (List D) := fun y e => R.opt (rangeD [x, y]) e
def r2K1 (b : Ex) (C : Ctx) : D → Env → R (List D) := fun x e => (val (b C e)).bind (r2K x)
theorem iRng2_ap {a b : Ex} : iRng2 a b C e = (val (a C e)).bind (r2K1 b C) := nr rfl
theorem r2K1_ap {b : Ex} {x : D} : r2K1 b C x e = (val (b C e)).bind (r2K x) := nr rfl
theorem r2K_ap {i j : Int} : r2K (.int i) (.int j) e = if rngOk i = true ∧ rngOk j = true then .ok (rngL i (j - i).toNat) e else .no := by
  show R.opt (if (rngOk i && rngOk j) = true then _ else _) e = _
  simp only [Bool.and_eq_true]
  split <;> rfl
def zipK (x : D) : D → Env → R (List D) := fun y e => R.opt (zipD x y) e
def zipK1 (b : Ex) (C : Ctx) : D → Env → R (List D) := fun x e => (val (b C e)).bind (zipK x)
theorem iZip_ap {a b : Ex} : iZip a b C e = (val (a C e)).bind (zipK1 b C) := nr rfl
theorem zipK1_ap {b : Ex} {x : D} : zipK1 b C x e = (val (b C e)).bind (zipK x) := nr rfl
theorem zipK_ap {x y : D} : zipK x y e = R.opt (zipD x y) e := nr rfl
theorem zipD_l {xs ys : List D} : zipD (.list xs) (.list ys) = some (List.zipWith (fun x y => .tuple [x, y]) xs ys) := nr rfl
theorem zipD_t {xs ys : List D} : zipD (.tuple xs) (.tuple ys) = some (List.zipWith (fun x y => .tuple [x, y]) xs ys) := nr rfl
def enmK : D → Env → R (List D) := fun x e => R.opt (enmD x) e
theorem iEnm_ap {a : Ex} : iEnm a C e = (val (a C e)).bind enmK := nr rfl
theorem enmK_ap {x : D} : enmK x e = R.opt (enmD x) e := nr rfl
theorem enmD_l {xs : List D} : enmD (.list xs) = some (enmL 0 xs) := nr rfl
theorem enmD_t {xs : List D} : enmD (.tuple xs) = some (enmL 0 xs) := nr rfl
/-! statements -/
theorem sSeq_ap {a b : Sx} : sSeq a b C e = F.seq (a C e) (b C) := nr rfl
theorem keep_tv {d : D} : keep true (.val d) = some (.val d) := nr rfl
theorem keep_to {ds : List D} : keep true (.own ds) = some (.own ds) := nr rfl
theorem keep_fv {d : D} : keep false (.val d) = some (.val d) := nr rfl
theorem keep_fo {ds : List D} : keep false (.own ds) = some (.val (.list ds)) := nr rfl
def setF (i : Nat) (e : Env) : Option Slot → F
  | some s => .next (e.set i (some s))
  | none => .no
theorem setF_some {i : Nat} {s : Slot} : setF i e (some s) = .next (e.set i (some s)) := nr rfl
def asgK (i : Nat) (own : Bool) : Slot → Env → F := fun s e => setF i e (keep own s)
theorem sAsg_ap {i : Nat} {m : Ex} {own : Bool} : sAsg i m own C e = R.flow (m C e) (asgK i own) := by
  have h : asgK i own = fun s e => orNo ((keep own s).map fun s => .next (e.set i (some s))) := by
    funext s e; unfold asgK setF; cases keep own s <;> rfl
  rw [h]; rfl
theorem asgK_ap {i : Nat} {own : Bool} {s : Slot} : asgK i own s e = setF i e (keep own s) := nr rfl
def nxF : Option Env → F
  | some e => .next e
  | none => .no
theorem nxF_some : nxF (some e) = .next e := nr rfl
def asgTK (t : MT) : D → Env → F := fun d e => nxF (bindT t d e)
theorem sAsgT_ap {t : MT} {m : Ex} : sAsgT t m C e = R.flow (val (m C e)) (asgTK t) := by
  have h : asgTK t = fun d e => orNo ((bindT t d e).map .next) := by
    funext s e; unfold asgTK nxF; cases bindT t s e <;> rfl
  rw [h]; rfl
theorem asgTK_ap {t : MT} {d : D} : asgTK t d e = nxF (bindT t d e) := nr rfl
theorem bindT_nm {i : Nat} {d : D} : bindT (.nm i) d e = some (e.set i (some (.val d))) := by unfold bindT; rfl
theorem bindT_tt {ts : List MT} {ds : List D} : bindT (.tp ts) (.tuple ds) e = bindTs ts ds e := by rw [bindT]
theorem bindT_tl {ts : List MT} {ds : List D} : bindT (.tp ts) (.list ds) e = bindTs ts ds e := by rw [bindT]
theorem bindTs_nil : bindTs [] [] e = some e := by rw [bindTs]
def bndK (ts : List MT) (ds : List D) : Option Env → Option Env
  | some e => bindTs ts ds e
  | none => none
theorem bndK_some {ts : List MT} {ds : List D} : bndK ts ds (some e) = bindTs ts ds e := nr rfl
theorem bindTs_cons {t : MT} {ts : List MT} {d : D} {ds : List D} : bindTs (t :: ts) (d :: ds) e = bndK ts ds (bindT t d e) := by
  rw [bindTs]; cases bindT t d e <;> rfl
theorem evSs_nil : evSs C [] e = .ok [] e := nr rfl
def evSsK (C : Ctx) (ms : List Ex) : Slot → Env → R (List Slot) := fun s e => (evSs C ms e).bind (consK s)
theorem evSs_cons {m : Ex} {ms : List Ex} : evSs C (m :: ms) e = (m C e).bind (evSsK C ms) := nr rfl
theorem evSsK_ap {ms : List Ex} {s : Slot} : evSsK C ms s e = (evSs C ms e).bind (consK s) := nr rfl
def parK (is : List Nat) (own : List Bool) : List Slot → Env → F := fun ss e => nxF (setPar is own ss e)
theorem sPar_ap {is : List Nat} {ms : List Ex} {own : List Bool} : sPar is ms own C e = R.flow (evSs C ms e) (parK is own) := by
  have h : parK is own = fun ss e => orNo ((setPar is own ss e).map .next) := by
    funext s e; unfold parK nxF; cases setPar is own s e <;> rfl
  rw [h]; rfl
theorem parK_ap {is : List Nat} {own : List Bool} {ss : List Slot} : parK is own ss e = nxF (setPar is own ss e) := nr rfl
theorem setPar_nil : setPar [] [] [] e = some e := nr rfl
def parO (i : Nat) (is : List Nat) (bs : List Bool) (ss : List Slot) (e : Env) : Option Slot → Option Env
  | some s => setPar is bs ss (e.set i (some s))
  | none => none
theorem parO_some {i : Nat} {is : List Nat} {bs : List Bool} {ss : List Slot} {s : Slot} : parO i is bs ss e (some s) = setPar is bs ss (e.set i (some s)) := nr rfl
theorem setPar_cons {i : Nat} {is : List Nat} {b : Bool} {bs : List Bool} {s : Slot} {ss : List Slot} : setPar (i :: is) (b :: bs) (s :: ss) e = parO i is bs ss e (keep b s) := by
  show (keep b s).bind _ = _
  cases keep b s <;> rfl
def sixK3 (i : Nat) (d : D) : D → Env → F := fun y e => setF i e (setD (getS e i) y d)
def sixK2 (i : Nat) (ix : Ex) (C : Ctx) (d : D) (e : Env) : Option Slot → F
  | some _ => R.flow (val (ix C e)) (sixK3 i d)
  | none => .no
def sixK (i : Nat) (ix : Ex) (C : Ctx) : D → Env → F := fun d e => sixK2 i ix C d e (getS e i)
theorem sSetIx_ap {i : Nat} {ix m : Ex} : sSetIx i ix m C e = R.flow (val (m C e)) (sixK i ix C) := by
  have h3 : ∀ d, sixK3 i d = fun y e => orNo ((setD (getS e i) y d).map fun s => .next (e.set i (some s))) := by
    intro d; funext y e; unfold sixK3 setF; cases setD (getS e i) y d <;> rfl
  have h : sixK i ix C = fun d e => (R.opt (getS e i) e).flow fun _ e => (val (ix C e)).flow fun y e => orNo ((setD (getS e i) y d).map fun s => .next (e.set i (some s))) := by
    funext d e; unfold sixK sixK2
    cases getS e i with
    | none => rfl
    | some s => rw [h3]; rfl
  rw [h]; rfl
theorem sixK_ap {i : Nat} {ix : Ex} {d : D} : sixK i ix C d e = sixK2 i ix C d e (getS e i) := nr rfl
theorem sixK2_some {i : Nat} {ix : Ex} {d : D} {s : Slot} : sixK2 i ix C d e (some s) = R.flow (val (ix C e)) (sixK3 i d) := nr rfl
theorem sixK3_ap {i : Nat} {d y : D} : sixK3 i d y e = setF i e (setD (getS e i) y d) := nr rfl
def setDN (ds : List D) (d : D) : Option Nat → Option Slot
  | some j => some (.own (ds.set j d))
  | none => none
theorem setDN_some {ds : List D} {d : D} {j : Nat} : setDN ds d (some j) = some (.own (ds.set j d)) := nr rfl
theorem setD_own {ds : List D} {k : Int} {d : D} : setD (some (.own ds)) (.int k) d = setDN ds d (ixOf ds.length k) := by
  show (ixOf ds.length k).map _ = _
  unfold setDN
  cases ixOf ds.length k <;> rfl
def appK2 (i : Nat) : D → Env → F := fun d e => setF i e (appD (getS e i) d)
def appK0 (i : Nat) (m : Ex) (C : Ctx) (e : Env) : Option Slot → F
  | some (.own _) => R.flow (val (m C e)) (appK2 i)
  | _ => .no
theorem sApp_ap {i : Nat} {m : Ex} : sApp i m C e = appK0 i m C e (getS e i) := by
  have h : appK2 i = fun d e => orNo ((appD (getS e i) d).map fun s => .next (e.set i (some s))) := by
    funext d e; unfold appK2 setF; cases appD (getS e i) d <;> rfl
  unfold sApp appK0 ownS
  cases getS e i with
  | none => rfl
  | some s => cases s with
    | own ds => rw [h]; rfl
    | val d => rfl
    | rd ds => rfl
theorem appK0_own {i : Nat} {m : Ex} {ds : List D} : appK0 i m C e (some (.own ds)) = R.flow (val (m C e)) (appK2 i) := nr rfl
theorem appK2_ap {i : Nat} {d : D} : appK2 i d e = setF i e (appD (getS e i) d) := nr rfl
theorem appD_own {ds : List D} {d : D} : appD (some (.own ds)) d = if ds.length < sizeLine then some (.own (ds ++ [d])) else none := by
  show (if decide _ = true then _ else _) = _
  simp only [decide_eq_true_eq]
theorem setF_ite {i : Nat} {p : Prop} [Decidable p] {x y : Option Slot} : setF i e (if p then x else y) = if p then setF i e x else setF i e y := by split <;> rfl
def expK : Slot → Env → F := fun _ e => .next e
theorem sExp_ap {m : Ex} : sExp m C e = R.flow (m C e) expK := nr rfl
theorem expK_ap {s : Slot} : expK s e = .next e := nr rfl
def ifK (a b : Sx) (C : Ctx) : Bool → Env → F := fun k e => if k then a C e else b C e
theorem sIf_ap {c : Tx} {a b : Sx} : sIf c a b C e = R.flow (c C e) (ifK a b C) := nr rfl
theorem ifK_ap {a b : Sx} {k : Bool} : ifK a b C k e = if k = true then a C e else b C e := nr rfl
def forK (t : MT) (b : Sx) (C : Ctx) : List D → Env → F := fun xs e => forL (forTurn C t b) xs e
theorem sFor_ap {t : MT} {it : Ix} {b : Sx} : sFor t it b C e = R.flow (it C e) (forK t b C) := nr rfl
theorem forK_ap {t : MT} {b : Sx} {xs : List D} : forK t b C xs e = forL (forTurn C t b) xs e := nr rfl
theorem sWhile_ap {c : Tx} {b : Sx} : sWhile c b C e = whileL (c C) (b C) C.fuel e := nr rfl
def ftK (b : Sx) (C : Ctx) : Option Env → F
  | some e => b C e
  | none => .no
theorem ftK_some {b : Sx} : ftK b C (some e) = b C e := nr rfl
theorem forTurn_ap {t : MT} {b : Sx} {x : D} : forTurn C t b x e = ftK b C (bindT t x e) := by
  unfold forTurn ftK; cases bindT t x e <;> rfl
def retF (e : Env) : Option Slot → F
  | some s => .ret s e
  | none => .no
theorem retF_some {s : Slot} : retF e (some s) = .ret s e := nr rfl
def retK (own : Bool) : Slot → Env → F := fun s e => retF e (keep own s)
theorem sRet_ap {m : Ex} {own : Bool} : sRet m own C e = R.flow (m C e) (retK own) := by
  have h : retK own = fun s e => orNo ((keep own s).map fun s => .ret s e) := by
    funext s e; unfold retK retF; cases keep own s <;> rfl
  rw [h]; rfl
theorem retK_ap {own : Bool} {s : Slot} : retK own s e = retF e (keep own s) := nr rfl
theorem sRetN_ap : sRetN C e = .ret (.val .none) e := nr rfl
theorem sBrk_ap : sBrk C e = .brk e := nr rfl
theorem sCont_ap : sCont C e = .cont e := nr rfl
theorem sPass_ap : sPass C e = .next e := nr rfl
/-! comprehensions -/
def lcK (f : D → Env → R (Option D)) (vs : List Nat) : List D → Env → R Slot := fun xs e0 => if noOwn e0 vs then
    (noX (loopL f 0 xs (wipeE e0 vs))).bind fun ds e => .ok (.own ds) (restE e0 e vs)
  else .no
theorem cLc_ap {elt : Ex} {t : MT} {it : Ix} {c : Option Tx} {vs : List Nat} : cLc elt t it c vs C e = (it C e).bind (lcK (lcTurn C t c elt vs) vs) := nr rfl
/-- a comprehension whose turns change nothing -/
theorem lcK_pure {f : D → Env → R (Option D)} {vs : List Nat} {xs : List D} (g : D → Option D) (hn : noOwn e vs = true) (hl : xs.length ≤ sizeLine)
    (h : ∀ x ∈ xs, f x (wipeE e vs) = .ok (g x) (wipeE e vs)) (hr : restE e (wipeE e vs) vs = e) : lcK f vs xs e = .ok (.own (xs.filterMap g)) e := by
  have key : ∀ (ys : List D) (n : Nat), (∀ x ∈ ys, x ∈ xs) → n + ys.length ≤ sizeLine → loopL f n ys (wipeE e vs) = .ok (ys.filterMap g) (wipeE e vs) := by
    intro ys
    induction ys with
    | nil => intros; rfl
    | cons y ys ih =>
      intro n hs hn
      rw [List.length_cons] at hn
      show (f y (wipeE e vs)).bind _ = _
      rw [h y (hs y (List.mem_cons_self ..))]
      show (match g y with | some d => _ | none => _) = _
      cases hg : g y with
      | none =>
        rw [List.filterMap_cons_none hg]
        exact ih n (fun x hx => hs x (List.mem_cons_of_mem _ hx)) (by omega)
      | some d =>
        rw [List.filterMap_cons_some hg]
        show (if decide (n < sizeLine) = true then (loopL f (n + 1) ys (wipeE e vs)).bind _ else _) = _
        rw [if_pos (decide_eq_true (by omega)), ih (n + 1) (fun x hx => hs x (List.mem_cons_of_mem _ hx)) (by omega)]
        rfl
  unfold lcK
  rw [if_pos hn, key xs 0 (fun _ h => h) (by omega)]
  show R.ok _ (restE e (wipeE e vs) vs) = _
  rw [hr]
end
/-! numbers, texts, lists: what the operations give -/
section
theorem b_add {i j : Int} : gBin .add (.int i) (.int j) = some (.val (.int (i + j))) := nr rfl
theorem b_sub {i j : Int} : gBin .sub (.int i) (.int j) = some (.val (.int (i - j))) := nr rfl
theorem b_mul {i j : Int} : gBin .mul (.int i) (.int j) = if mulOk i j = true then some (.val (.int (i * j))) else none := by
  show Option.map fresh (if mulOk i j = true then _ else _) = _
  split <;> rfl
theorem b_fdiv {i j : Int} : gBin .fdiv (.int i) (.int j) = if divOk j = true then some (.val (.int (i / j))) else none := by
  show Option.map fresh (if divOk j = true then _ else _) = _
  split <;> rfl
theorem b_mod {i j : Int} : gBin .mod (.int i) (.int j) = if 0 < j then some (.val (.int (i % j))) else none := by
  show Option.map fresh (if decide (0 < j) = true then _ else _) = _
  simp only [decide_eq_true_eq]
  split <;> rfl
theorem b_pow {i j : Int} : gBin .pow (.int i) (.int j) = if powOk i j = true then some (.val (.int (i ^ j.toNat))) else none := by
  show Option.map fresh (if powOk i j = true then _ else _) = _
  split <;> rfl
theorem b_addL {x y : List D} : gBin .add (.list x) (.list y) = if x.length + y.length ≤ sizeLine then some (.own (x ++ y)) else none := by
  show Option.map fresh (if decide _ = true then _ else _) = _
  simp only [decide_eq_true_eq]
  split <;> rfl
theorem b_addT {x y : List D} : gBin .add (.tuple x) (.tuple y) = if x.length + y.length ≤ sizeLine then some (.val (.tuple (x ++ y))) else none := by
  show Option.map fresh (if decide _ = true then _ else _) = _
  simp only [decide_eq_true_eq]
  split <;> rfl
theorem b_mulL {x : List D} {k : Int} : gBin .mul (.list x) (.int k) = if repOk k x.length = true then some (.own (repL k.toNat x)) else none := by
  show Option.map fresh (if _ = true then _ else _) = _
  split <;> rfl
theorem b_mulT {x : List D} {k : Int} : gBin .mul (.tuple x) (.int k) = if repOkU k x.length = true then some (.val (.tuple (repL k.toNat x))) else none := by
  show Option.map fresh (if _ = true then _ else _) = _
  split <;> rfl
theorem n_neg {i : Int} : negD (.int i) = some (.val (.int (-i))) := nr rfl
theorem q_lt {i j : Int} : gCmp .lt (.int i) (.int j) = some (.val (.bool (decide (i < j)))) := nr rfl
theorem q_le {i j : Int} : gCmp .le (.int i) (.int j) = some (.val (.bool (decide (i ≤ j)))) := nr rfl
theorem q_gt {i j : Int} : gCmp .gt (.int i) (.int j) = some (.val (.bool (decide (j < i)))) := nr rfl
theorem q_ge {i j : Int} : gCmp .ge (.int i) (.int j) = some (.val (.bool (decide (j ≤ i)))) := nr rfl
theorem beq_dec {i j : Int} : (i == j) = decide (i = j) := by
  by_cases h : i = j
  · rw [h]; simp
  · simp [h]
theorem q_eq {i j : Int} : gCmp .eq (.int i) (.int j) = some (.val (.bool (decide (i = j)))) := by
  show some (Slot.val (.bool (i == j))) = _
  rw [beq_dec]
theorem q_ne {i j : Int} : gCmp .ne (.int i) (.int j) = some (.val (.bool (!decide (i = j)))) := by
  show some (Slot.val (.bool (!(i == j)))) = _
  rw [beq_dec]
theorem q_eqb {i j : Bool} : gCmp .eq (.bool i) (.bool j) = some (.val (.bool (i == j))) := nr rfl
theorem q_neb {i j : Bool} : gCmp .ne (.bool i) (.bool j) = some (.val (.bool (!(i == j)))) := nr rfl
theorem q_eqn : gCmp .eq .none .none = some (.val (.bool true)) := nr rfl
theorem q_nen : gCmp .ne .none .none = some (.val (.bool false)) := nr rfl
theorem q_eqs {x y : Str} : gCmp .eq (.str x) (.str y) = some (.val (.bool (x == y))) := nr rfl
theorem q_nes {x y : Str} : gCmp .ne (.str x) (.str y) = some (.val (.bool (!(x == y)))) := nr rfl
theorem c_lt {i j : Int} : cmpD .lt (.int i) (.int j) = some (decide (i < j)) := nr rfl
theorem c_le {i j : Int} : cmpD .le (.int i) (.int j) = some (decide (i ≤ j)) := nr rfl
theorem c_gt {i j : Int} : cmpD .gt (.int i) (.int j) = some (decide (j < i)) := nr rfl
theorem c_ge {i j : Int} : cmpD .ge (.int i) (.int j) = some (decide (j ≤ i)) := nr rfl
theorem c_eq {i j : Int} : cmpD .eq (.int i) (.int j) = some (decide (i = j)) := by
  show some (i == j) = _
  rw [beq_dec]
theorem t_b {b : Bool} : truthD (.bool b) = some b := nr rfl
theorem t_i {i : Int} : truthD (.int i) = some (!decide (i = 0)) := by
  show some (!(i == 0)) = _
  rw [beq_dec]
theorem t_l {xs : List D} : truthD (.list xs) = some (!xs.isEmpty) := nr rfl
theorem t_t {xs : List D} : truthD (.tuple xs) = some (!xs.isEmpty) := nr rfl
theorem t_n : truthD .none = some false := nr rfl
theorem g_not {x : D} : gNot x = (truthD x).map fun k => .val (.bool (!k)) := nr rfl
theorem i_n : isN .none = true := nr rfl
theorem i_b {b : Bool} : isN (.bool b) = false := nr rfl
theorem i_i {i : Int} : isN (.int i) = false := nr rfl
theorem i_s {s : Str} : isN (.str s) = false := nr rfl
theorem i_l {xs : List D} : isN (.list xs) = false := nr rfl
theorem i_t {xs : List D} : isN (.tuple xs) = false := nr rfl
theorem g_isn {x : D} : gIsN false x = some (.val (.bool (isN x))) := nr rfl
theorem g_isnn {x : D} : gIsN true x = some (.val (.bool (!isN x))) := nr rfl
theorem gi_n {ts : List Ty} : gIsi ts .none = some (.val (.bool (ts.any (isTy .none)))) := nr rfl
theorem gi_b {ts : List Ty} {b : Bool} : gIsi ts (.bool b) = some (.val (.bool (ts.any (isTy (.bool b))))) := nr rfl
theorem gi_i {ts : List Ty} {i : Int} : gIsi ts (.int i) = some (.val (.bool (ts.any (isTy (.int i))))) := nr rfl
theorem gi_s {ts : List Ty} {x : Str} : gIsi ts (.str x) = some (.val (.bool (ts.any (isTy (.str x))))) := nr rfl
theorem gi_l {ts : List Ty} {l : List D} : gIsi ts (.list l) = some (.val (.bool (ts.any (isTy (.list l))))) := nr rfl
theorem gi_t {ts : List Ty} {l : List D} : gIsi ts (.tuple l) = some (.val (.bool (ts.any (isTy (.tuple l))))) := nr rfl
theorem ty_i {i : Int} : isTy (.int i) = fun t => match t with | .int => true | _ => false := by funext t; cases t <;> rfl
theorem mx (a b : Int) : (if b > a then b else a) = max a b := by split <;> omega
theorem mn (a b : Int) : (if b < a then b else a) = min a b := by split <;> omega
theorem ab (a : Int) : (if a < 0 then -a else a) = (a.natAbs : Int) := by split <;> omega
theorem f_max {i j : Int} : biD .max [.int i, .int j] = some (.val (.int (max i j))) := by show some (Slot.val (.int (if j > i then j else i))) = _; rw [mx]
theorem f_min {i j : Int} : biD .min [.int i, .int j] = some (.val (.int (min i j))) := by show some (Slot.val (.int (if j < i then j else i))) = _; rw [mn]
theorem f_abs {i : Int} : biD .abs [.int i] = some (.val (.int (i.natAbs : Int))) := by show some (Slot.val (.int (if i < 0 then -i else i))) = _; rw [ab]
theorem f_int {i : Int} : biD .int [.int i] = some (.val (.int i)) := nr rfl
theorem f_intb {b : Bool} : biD .int [.bool b] = some (.val (.int (if b = true then 1 else 0))) := nr rfl
theorem f_lenl {xs : List D} : biD .len [.list xs] = some (.val (.int xs.length)) := nr rfl
theorem f_lent {xs : List D} : biD .len [.tuple xs] = some (.val (.int xs.length)) := nr rfl
theorem f_listl {xs : List D} : biD .list [.list xs] = some (.own xs) := nr rfl
theorem f_listt {xs : List D} : biD .list [.tuple xs] = some (.own xs) := nr rfl
theorem f_tupl {xs : List D} : biD .tuple [.list xs] = some (.val (.tuple xs)) := nr rfl
theorem f_tupt {xs : List D} : biD .tuple [.tuple xs] = some (.val (.tuple xs)) := nr rfl
abbrev I (i : Int) : D := .int i
theorem ints_map : ∀ l : List Int, intsD (l.map .int) = some l
  | [] => rfl
  | i :: l => by
    show (intsD (l.map .int)).map _ = _
    rw [ints_map l]; rfl
theorem bools_map : ∀ l : List Bool, boolsD (l.map .bool) = some l
  | [] => rfl
  | i :: l => by
    show (boolsD (l.map .bool)).map _ = _
    rw [bools_map l]; rfl
theorem f_sum {l : List Int} : biD .sum [.list (l.map .int)] = some (.val (.int l.sum)) := by
  show (intsD _).map _ = _
  rw [ints_map]; rfl
theorem f_sumt {l : List Int} : biD .sum [.tuple (l.map .int)] = some (.val (.int l.sum)) := by
  show (intsD _).map _ = _
  rw [ints_map]; rfl
theorem f_all {l : List Bool} : biD .all [.list (l.map .bool)] = some (.val (.bool (l.all id))) := by
  show (boolsD _).map _ = _
  rw [bools_map]; rfl
theorem f_any {l : List Bool} : biD .any [.list (l.map .bool)] = some (.val (.bool (l.any id))) := by
  show (boolsD _).map _ = _
  rw [bools_map]; rfl
theorem f_sort {l : List Int} : biD .sorted [.list (l.map .int)] = some (.own ((sortI l).map .int)) := by
  show (intsD _).map _ = _
  rw [ints_map]; rfl
theorem f_sortT {l : List Int} : biD .sorted [.tuple (l.map .int)] = some (.own ((sortI l).map .int)) := by
  show (intsD _).map _ = _
  rw [ints_map]; rfl
theorem g_atl {xs : List D} {i : Int} : gAt (.list xs) (.int i) = (atL xs i).map .val := nr rfl
theorem g_att {xs : List D} {i : Int} : gAt (.tuple xs) (.int i) = (atL xs i).map .val := nr rfl
theorem s_l {xs : List D} {lo hi : Option Int} : slD (.list xs) lo hi = some (.own (cutD xs lo hi)) := nr rfl
theorem s_t {xs : List D} {lo hi : Option Int} : slD (.tuple xs) lo hi = some (.val (.tuple (cutD xs lo hi))) := nr rfl
theorem r_l {xs : List D} : revD (.list xs) = some (.own xs.reverse) := nr rfl
theorem r_t {xs : List D} : revD (.tuple xs) = some (.val (.tuple xs.reverse)) := nr rfl
theorem rng_ok {i : Int} (h : -(2 ^ 62) ≤ i) (h2 : i < 2 ^ 62) : rngOk i = true := by
  unfold rngOk; rw [decide_eq_true h, decide_eq_true h2]; rfl
theorem log_lt {i : Int} (h : -(2 ^ 63) < i) (h2 : i < 2 ^ 63) : i.natAbs.log2 < 63 := by
  by_cases z : i.natAbs = 0
  · rw [z]; decide
  · exact (Nat.log2_lt z).mpr (by omega)
theorem mul_l {i j : Int} (h : -(2 ^ 63) < i) (h2 : i < 2 ^ 63) : mulOk i j = true := by
  unfold mulOk; rw [decide_eq_true (log_lt h h2)]; rfl
theorem mul_r {i j : Int} (h : -(2 ^ 63) < j) (h2 : j < 2 ^ 63) : mulOk i j = true := by
  unfold mulOk; rw [decide_eq_true (log_lt h h2), Bool.or_true]; rfl
set_option exponentiation.threshold 10000 in
theorem div_ok {j : Int} (h : 0 < j) (h2 : j < 2 ^ 8000) : divOk j = true := by
  have h3 : j.natAbs.log2 < 9000 := by
    have z : j.natAbs ≠ 0 := by omega
    have : j.natAbs < 2 ^ 8000 := by omega
    exact (Nat.log2_lt z).mpr (Nat.lt_of_lt_of_le this (Nat.pow_le_pow_right (by decide) (by decide)))
  unfold divOk; rw [decide_eq_true h, decide_eq_true h3]; rfl
theorem call_eq {P : Prog} {n f : Nat} {us : List Slot} (d : MDef) (hd : P.defs[f]? = some d) (hl : us.length = d.rp.length) :
    call P (n + 1) f us = F.done d.rp (d.body ⟨call P n, P.fuel⟩ (us.map some ++ List.replicate d.nl none)) := by
  show callF _ us P.defs[f]? = _
  rw [hd]
  exact if_pos hl
theorem rep_z {α : Type} {x : α} : List.replicate 0 x = [] := nr rfl
theorem rep_s {α : Type} {n : Nat} {x : α} : List.replicate (n + 1) x = x :: List.replicate n x := nr rfl
end
end Ev
end
section
set_option linter.all false
set_option maxRecDepth 100000
/-! ends of statements, loops by what holds, drawn numbers -/
namespace Ev
open PySem
structure Zs where
  nx : Env → Prop
  rt : Slot → Env → Prop := fun _ _ => False
  bk : Env → Prop := fun _ => False
  ct : Env → Prop := fun _ => False
  xc : Nat → List D → Env → Prop := fun _ _ _ => False
structure Fw (f : F) (Z : Zs) : Prop where
  go : match f with
    | .next e => Z.nx e
    | .ret s e => Z.rt s e
    | .brk e => Z.bk e
    | .cont e => Z.ct e
    | .exc c ds e => Z.xc c ds e
    | .no => False
structure CRw (r : CR) (Q : Slot → List (Option Slot) → Prop) : Prop where
  go : match r with
    | .ret s ps => Q s ps
    | _ => False
section
variable {C : Ctx} {e : Env} {Z : Zs} {p : Prop} [Decidable p]
theorem fw_next : Fw (.next e) Z ↔ Z.nx e := ⟨fun h => h.go, fun h => ⟨h⟩⟩
theorem fw_ret {s : Slot} : Fw (.ret s e) Z ↔ Z.rt s e := ⟨fun h => h.go, fun h => ⟨h⟩⟩
theorem fw_brk : Fw (.brk e) Z ↔ Z.bk e := ⟨fun h => h.go, fun h => ⟨h⟩⟩
theorem fw_cont : Fw (.cont e) Z ↔ Z.ct e := ⟨fun h => h.go, fun h => ⟨h⟩⟩
theorem fw_exc {c : Nat} {ds : List D} : Fw (.exc c ds e) Z ↔ Z.xc c ds e := ⟨fun h => h.go, fun h => ⟨h⟩⟩
theorem fw_ite {x y : F} : Fw (if p then x else y) Z ↔ if p then Fw x Z else Fw y Z := by split <;> exact Iff.rfl
theorem CRw.eq {r : CR} {Q : Slot → List (Option Slot) → Prop} (h : CRw r Q) : ∃ s ps, r = .ret s ps ∧ Q s ps := by
  cases r with
  | ret a e => exact ⟨a, e, rfl, h.go⟩
  | exc _ _ _ => exact h.go.elim
  | no => exact h.go.elim
theorem CRw.eq1 {r : CR} {s : Slot} {ps : List (Option Slot)} (h : CRw r fun s' ps' => s' = s ∧ ps' = ps) : r = .ret s ps := by
  obtain ⟨a, b, h1, h2, h3⟩ := h.eq
  rw [h1, h2, h3]
theorem call_fw {P : Prog} {n f : Nat} {us : List Slot} {Q : Slot → List (Option Slot) → Prop} (d : MDef) (hd : P.defs[f]? = some d) (hl : us.length = d.rp.length)
    (h : Fw (d.body ⟨call P n, P.fuel⟩ (us.map some ++ List.replicate d.nl none)) { nx := fun e => Q (.val .none) (maskP d.rp e), rt := fun s e => Q s (maskP d.rp e) }) : CRw (call P (n + 1) f us) Q := by
  rw [call_eq d hd hl]
  cases hf : d.body ⟨call P n, P.fuel⟩ (us.map some ++ List.replicate d.nl none) with
  | next e => rw [hf] at h; exact ⟨h.go⟩
  | ret s e => rw [hf] at h; exact ⟨h.go⟩
  | brk e => rw [hf] at h; exact h.go.elim
  | cont e => rw [hf] at h; exact h.go.elim
  | exc _ _ _ => rw [hf] at h; exact h.go.elim
  | no => rw [hf] at h; exact h.go.elim
/-- a call that may raise -/
structure CRx (r : CR) (Q : Slot → List (Option Slot) → Prop) (E : Nat → List D → List (Option Slot) → Prop) : Prop where
  go : match r with
    | .ret s ps => Q s ps
    | .exc c ds ps => E c ds ps
    | .no => False
theorem CRx.exc {r : CR} {c : Nat} {ds : List D} {ps : List (Option Slot)} (h : CRx r (fun _ _ => False) fun c' ds' ps' => c' = c ∧ ds' = ds ∧ ps' = ps) : r = .exc c ds ps := by
  cases r with
  | ret _ _ => exact h.go.elim
  | exc _ _ _ =>
    obtain ⟨h1, h2, h3⟩ := h.go
    rw [h1, h2, h3]
  | no => exact h.go.elim
theorem call_fx {P : Prog} {n f : Nat} {us : List Slot} {Q : Slot → List (Option Slot) → Prop} {E : Nat → List D → List (Option Slot) → Prop} (d : MDef) (hd : P.defs[f]? = some d) (hl : us.length = d.rp.length)
    (h : Fw (d.body ⟨call P n, P.fuel⟩ (us.map some ++ List.replicate d.nl none)) { nx := fun e => Q (.val .none) (maskP d.rp e), rt := fun s e => Q s (maskP d.rp e), xc := fun c ds e => E c ds (maskP d.rp e) }) : CRx (call P (n + 1) f us) Q E := by
  rw [call_eq d hd hl]
  cases hf : d.body ⟨call P n, P.fuel⟩ (us.map some ++ List.replicate d.nl none) with
  | next e => rw [hf] at h; exact ⟨h.go⟩
  | ret s e => rw [hf] at h; exact ⟨h.go⟩
  | brk e => rw [hf] at h; exact h.go.elim
  | cont e => rw [hf] at h; exact h.go.elim
  | exc _ _ _ => rw [hf] at h; exact ⟨h.go⟩
  | no => rw [hf] at h; exact h.go.elim
/-- a loop: J what holds behind the first turns -/
theorem for_fw {f : D → Env → F} {xs : List D} {e0 : Env} {k : Env → F} (J : Nat → Env → Prop) (h0 : J 0 e0)
    (hs : ∀ i x e, xs[i]? = some x → J i e → Fw (f x e) { nx := J (i + 1), rt := Z.rt, bk := fun e => Fw (k e) Z, ct := J (i + 1), xc := Z.xc })
    (hk : ∀ e, J xs.length e → Fw (k e) Z) : Fw (F.seq (forL f xs e0) k) Z := by
  have key : ∀ (ys zs : List D) (e : Env), xs = zs ++ ys → J zs.length e → Fw (F.seq (forL f ys e) k) Z := by
    intro ys
    induction ys with
    | nil =>
      intro zs e hx hJ
      rw [List.append_nil] at hx; subst hx
      exact hk e hJ
    | cons y ys ih =>
      intro zs e hx hJ
      have q := hs zs.length y e (by rw [hx, List.getElem?_append_right (Nat.le_refl _), Nat.sub_self]; rfl) hJ
      have nxt : ∀ e, J (zs.length + 1) e → Fw (F.seq (forL f ys e) k) Z := fun e hj => ih (zs ++ [y]) e (by rw [hx, List.append_assoc]; rfl) (by rw [List.length_append]; exact hj)
      show Fw (F.seq ((f y e).turn (forL f ys)) k) Z
      cases hf : f y e with
      | next e => rw [hf] at q; exact nxt e q.go
      | ret s e => rw [hf] at q; exact ⟨q.go⟩
      | brk e => rw [hf] at q; exact q.go
      | cont e => rw [hf] at q; exact nxt e q.go
      | exc _ _ _ => rw [hf] at q; exact ⟨q.go⟩
      | no => rw [hf] at q; exact q.go.elim
  exact key xs [] e0 rfl h0
/-- a while by a measure -/
theorem while_fw {c : Env → R Bool} {b : Env → F} {e0 : Env} {k : Env → F} {N : Nat} (J : Env → Prop) (m : Env → Nat) (h0 : J e0) (hm : m e0 < N)
    (hs : ∀ e, J e → (∃ e1, c e = .ok true e1 ∧ Fw (b e1) { nx := fun e2 => J e2 ∧ m e2 < m e, rt := Z.rt, bk := fun e => Fw (k e) Z, ct := fun e2 => J e2 ∧ m e2 < m e, xc := Z.xc }) ∨ (∃ e1, c e = .ok false e1 ∧ Fw (k e1) Z)) :
    Fw (F.seq (whileL c b N e0) k) Z := by
  induction N generalizing e0 with
  | zero => omega
  | succ N ih =>
    show Fw (F.seq (R.flow (c e0) fun k e => if k then (b e).turn (whileL c b N) else .next e) k) Z
    rcases hs e0 h0 with ⟨e1, h1, h2⟩ | ⟨e1, h1, h2⟩
    · rw [h1]
      show Fw (F.seq (F.turn (b e1) (whileL c b N)) k) Z
      cases hf : b e1 with
      | next e => rw [hf] at h2; have h := h2.go; exact ih h.1 (by have := h.2; omega)
      | ret s e => rw [hf] at h2; exact ⟨h2.go⟩
      | brk e => rw [hf] at h2; exact h2.go
      | cont e => rw [hf] at h2; have h := h2.go; exact ih h.1 (by have := h.2; omega)
      | exc _ _ _ => rw [hf] at h2; exact ⟨h2.go⟩
      | no => rw [hf] at h2; exact h2.go.elim
    · rw [h1]; exact h2
end
/-- a comprehension whose turns may change what is handed by name: J what holds of the found ones and the names -/
theorem lcK_inv {f : D → Env → R (Option D)} {vs : List Nat} {xs : List D} {e : Env} (J : Nat → List D → Env → Prop) (hn : noOwn e vs = true) (hl : xs.length ≤ sizeLine) (h0 : J 0 [] (wipeE e vs))
    (hs : ∀ i x ds e, xs[i]? = some x → ds.length ≤ i → J i ds e → ∃ o e', f x e = .ok o e' ∧ J (i + 1) (ds ++ o.toList) e') :
    ∃ ds e', lcK f vs xs e = .ok (.own ds) (restE e e' vs) ∧ J xs.length ds e' := by
  have key : ∀ (ys zs ds : List D) (e : Env), xs = zs ++ ys → ds.length ≤ zs.length → J zs.length ds e → ∃ es e', loopL f ds.length ys e = .ok es e' ∧ J xs.length (ds ++ es) e' := by
    intro ys
    induction ys with
    | nil =>
      intro zs ds e hx hd hJ
      rw [List.append_nil] at hx; subst hx
      exact ⟨[], e, rfl, by rw [List.append_nil]; exact hJ⟩
    | cons y ys ih =>
      intro zs ds e hx hd hJ
      obtain ⟨o, e', h1, h2⟩ := hs zs.length y ds e (by rw [hx, List.getElem?_append_right (Nat.le_refl _), Nat.sub_self]; rfl) hd hJ
      have hlen : xs.length = zs.length + (ys.length + 1) := by rw [hx, List.length_append, List.length_cons]
      have hx2 : xs = (zs ++ [y]) ++ ys := by rw [hx, List.append_assoc]; rfl
      have hz : (zs ++ [y]).length = zs.length + 1 := by rw [List.length_append]; rfl
      show ∃ es e', (f y e).bind _ = _ ∧ _
      rw [h1, bind_ok]
      cases o with
      | none =>
        obtain ⟨es, e2, q1, q2⟩ := ih (zs ++ [y]) ds e' hx2 (by omega) (by rw [hz]; simpa using h2)
        exact ⟨es, e2, q1, q2⟩
      | some d =>
        have hd2 : (ds ++ [d]).length = ds.length + 1 := by rw [List.length_append]; rfl
        obtain ⟨es, e2, q1, q2⟩ := ih (zs ++ [y]) (ds ++ [d]) e' hx2 (by omega) (by rw [hz]; simpa using h2)
        refine ⟨d :: es, e2, ?_, by rw [List.append_assoc] at q2; exact q2⟩
        show (if decide (ds.length < sizeLine) = true then (loopL f (ds.length + 1) ys e').bind _ else _) = _
        rw [if_pos (decide_eq_true (by omega)), ← hd2, q1]
        rfl
  obtain ⟨es, e', q1, q2⟩ := key xs [] [] (wipeE e vs) rfl (Nat.le_refl _) h0
  refine ⟨es, e', ?_, q2⟩
  unfold lcK
  rw [if_pos hn, show loopL f 0 xs (wipeE e vs) = _ from q1]
  rfl
theorem lcTurn_some {C : Ctx} {t : MT} {c : Option Tx} {elt : Ex} {vs : List Nat} {x : D} {e e1 e2 e3 : Env} {d : D} (h1 : bindT t x e = some e1) (h2 : evC C c e1 = .ok true e2) (h3 : val (elt C e2) = .ok d e3) : lcTurn C t c elt vs x e = .ok (some d) (wipeE e3 vs) := by
  unfold lcTurn; rw [h1]
  show (evC C c e1).bind _ = _
  rw [h2, bind_ok, if_pos rfl, h3]; rfl
theorem lcTurn_none {C : Ctx} {t : MT} {c : Option Tx} {elt : Ex} {vs : List Nat} {x : D} {e e1 e2 : Env} (h1 : bindT t x e = some e1) (h2 : evC C c e1 = .ok false e2) : lcTurn C t c elt vs x e = .ok none (wipeE e2 vs) := by
  unfold lcTurn; rw [h1]
  show (evC C c e1).bind _ = _
  rw [h2]; rfl
def lcE (C : Ctx) (c : Option Tx) (elt : Ex) (vs : List Nat) : Option Env → R (Option D)
  | some e => (evC C c e).bind fun k e => if k then (val (elt C e)).bind fun d e => .ok (some d) (wipeE e vs) else .ok none (wipeE e vs)
  | none => .no
theorem lcTurn_ap {C : Ctx} {t : MT} {c : Option Tx} {elt : Ex} {vs : List Nat} {x : D} {e : Env} : lcTurn C t c elt vs x e = lcE C c elt vs (bindT t x e) := by
  unfold lcTurn lcE; cases bindT t x e <;> rfl
def lcK3 (vs : List Nat) : D → Env → R (Option D) := fun d e => .ok (some d) (wipeE e vs)
theorem lcK3_ap {vs : List Nat} {d : D} {e : Env} : lcK3 vs d e = .ok (some d) (wipeE e vs) := nr rfl
def lcK2 (elt : Ex) (vs : List Nat) (C : Ctx) : Bool → Env → R (Option D) := fun k e => if k then (val (elt C e)).bind (lcK3 vs) else .ok none (wipeE e vs)
theorem lcK2_ap {C : Ctx} {elt : Ex} {vs : List Nat} {k : Bool} {e : Env} : lcK2 elt vs C k e = if k = true then (val (elt C e)).bind (lcK3 vs) else .ok none (wipeE e vs) := nr rfl
theorem lcE_some {C : Ctx} {c : Option Tx} {elt : Ex} {vs : List Nat} {e : Env} : lcE C c elt vs (some e) = (evC C c e).bind (lcK2 elt vs C) := nr rfl
theorem evC_none {C : Ctx} {e : Env} : evC C none e = .ok true e := nr rfl
theorem evC_some {C : Ctx} {m : Tx} {e : Env} : evC C (some m) e = m C e := nr rfl
theorem wipe_nil {e : Env} : wipeE e [] = e := nr rfl
theorem wipe_cons {e : Env} {v : Nat} {vs : List Nat} : wipeE e (v :: vs) = (wipeE e vs).set v none := nr rfl
theorem rest_nil {e0 e : Env} : restE e0 e [] = e := nr rfl
theorem rest_cons {e0 e : Env} {v : Nat} {vs : List Nat} : restE e0 e (v :: vs) = (restE e0 e vs).set v (getS e0 v) := nr rfl
/-! pieces -/
theorem sIx_n {n d : Nat} : sIx n d none = d := nr rfl
theorem sIx_nn {n d : Nat} {v : Int} (h : 0 ≤ v) : sIx n d (some v) = min v.toNat n := if_neg (by omega)
theorem cut_to {α : Type} {xs : List α} {k : Int} (h : 0 ≤ k) : cutD xs none (some k) = xs.take k.toNat := by
  unfold cutD
  rw [sIx_n, sIx_nn h, List.drop_zero, Nat.sub_zero]
  by_cases q : k.toNat ≤ xs.length
  · rw [Nat.min_eq_left q]
  · rw [Nat.min_eq_right (by omega), List.take_of_length_le (Nat.le_refl _), List.take_of_length_le (by omega)]
theorem cut_from {α : Type} {xs : List α} {k : Int} (h : 0 ≤ k) : cutD xs (some k) none = xs.drop k.toNat := by
  unfold cutD
  rw [sIx_n, sIx_nn h]
  by_cases q : k.toNat ≤ xs.length
  · rw [Nat.min_eq_left q, List.take_of_length_le (by rw [List.length_drop]; omega)]
  · rw [Nat.min_eq_right (by omega), Nat.sub_self, List.take_zero, List.drop_eq_nil_of_le (by omega)]
theorem cut_ft {α : Type} {xs : List α} {i k : Int} (h : 0 ≤ i) (h2 : 0 ≤ k) : cutD xs (some i) (some k) = (xs.drop i.toNat).take (k.toNat - i.toNat) := by
  unfold cutD
  rw [sIx_nn h, sIx_nn h2]
  by_cases q : i.toNat ≤ xs.length
  · rw [Nat.min_eq_left q]
    by_cases r : k.toNat ≤ xs.length
    · rw [Nat.min_eq_left r]
    · rw [Nat.min_eq_right (by omega), List.take_of_length_le (by rw [List.length_drop]; omega), List.take_of_length_le (by rw [List.length_drop]; omega)]
  · rw [Nat.min_eq_right (a := i.toNat) (by omega), List.drop_eq_nil_of_le (Nat.le_refl _), List.drop_eq_nil_of_le (by omega), List.take_nil, List.take_nil]
theorem cut_map {α β : Type} (f : α → β) (xs : List α) (lo hi : Option Int) : cutD (xs.map f) lo hi = (cutD xs lo hi).map f := by
  unfold cutD; rw [List.length_map, ← List.map_drop, ← List.map_take]
theorem atL_nn {α : Type} {xs : List α} {i : Int} (h : 0 ≤ i) (h2 : i < xs.length) : atL xs i = some (xs[i.toNat]'(by omega)) := by
  unfold atL ixOf
  rw [if_pos h, if_pos h2]
  exact List.getElem?_eq_getElem (by omega)
theorem ix_nn {n : Nat} {i : Int} (h : 0 ≤ i) (h2 : i < n) : ixOf n i = some i.toNat := by
  unfold ixOf; rw [if_pos h, if_pos h2]
theorem at_0 {α : Type} {a : α} {l : List α} : atL (a :: l) 0 = some a := by rw [atL_nn (Int.le_refl _) (by simp only [List.length_cons]; omega)]; rfl
theorem at_1 {α : Type} {a b : α} {l : List α} : atL (a :: b :: l) 1 = some b := by rw [atL_nn (by omega) (by simp only [List.length_cons]; omega)]; rfl
theorem at_2 {α : Type} {a b c : α} {l : List α} : atL (a :: b :: c :: l) 2 = some c := by rw [atL_nn (by omega) (by simp only [List.length_cons]; omega)]; rfl
theorem at_3 {α : Type} {a b c d : α} {l : List α} : atL (a :: b :: c :: d :: l) 3 = some d := by rw [atL_nn (by omega) (by simp only [List.length_cons]; omega)]; rfl
theorem at_4 {α : Type} {a b c d x : α} {l : List α} : atL (a :: b :: c :: d :: x :: l) 4 = some x := by rw [atL_nn (by omega) (by simp only [List.length_cons]; omega)]; rfl
theorem at_last {α : Type} {a : α} {l : List α} : atL (l ++ [a]) (-1) = some a := by
  unfold atL ixOf
  rw [if_neg (by omega), List.length_append, if_pos (by simp only [List.length_cons, List.length_nil]; omega)]
  show (l ++ [a])[_]? = _
  rw [show ((-1 : Int) + ((l.length + [a].length : Nat) : Int)).toNat = l.length by simp only [List.length_cons, List.length_nil]; omega, List.getElem?_append_right (Nat.le_refl _), Nat.sub_self]; rfl
/-! drawn numbers -/
def Box (B : Int) (bx : List D) : Prop := ∃ b0 b1 b2 : Int, bx = [I b0, I b1, I b2] ∧ 0 ≤ b0 ∧ 0 ≤ b1 ∧ b1 < 2 ^ 62 ∧ 0 ≤ b2 ∧ b2 ≤ B
theorem Box.mono {B B' : Int} {bx : List D} (h : Box B bx) (q : B ≤ B') : Box B' bx := by
  obtain ⟨a, b, c, h1, h2, h3, h4, h5, h6⟩ := h
  exact ⟨a, b, c, h1, h2, h3, h4, h5, by omega⟩
/-! what may be held beside itself: no dict, lists not too long -/
mutual
def okD : D → Prop
  | .none => True
  | .bool _ => True
  | .int _ => True
  | .str x => PyData.strOk x = true
  | .list ds => ds.length ≤ 16777216 ∧ okL ds
  | .tuple ds => ds.length ≤ 16777216 ∧ okL ds
  | .dict _ => False
def okL : List D → Prop
  | [] => True
  | d :: ds => okD d ∧ okL ds
end
mutual
def dpD : D → Nat
  | .list ds => dpL ds + 1
  | .tuple ds => dpL ds + 1
  | _ => 0
def dpL : List D → Nat
  | [] => 0
  | d :: ds => max (dpD d) (dpL ds)
end
mutual
theorem canLay_ok : ∀ d : D, okD d → d.canLay0 = true
  | .none, _ => by simp only [PyData.canLay0]
  | .bool _, _ => by simp only [PyData.canLay0]
  | .int _, _ => by simp only [PyData.canLay0]
  | .str x, h => by simp only [PyData.canLay0]; simpa only [okD] using h
  | .list ds, h => by simp only [PyData.canLay0]; exact canLayL_ok ds h.2
  | .tuple ds, h => by simp only [PyData.canLay0]; exact canLayL_ok ds h.2
  | .dict _, h => h.elim
theorem canLayL_ok : ∀ ds : List D, okL ds → PyData.canLayAll0 ds = true
  | [], _ => by simp only [PyData.canLayAll0]
  | d :: ds, h => by
    unfold okL at h
    simp only [PyData.canLayAll0, canLay_ok d h.1, canLayL_ok ds h.2, Bool.and_self]
end
mutual
theorem depth_dp : ∀ d : D, okD d → d.depth ≤ dpD d + 1
  | .none, _ => by simp [PyData.depth, dpD]
  | .bool _, _ => by simp [PyData.depth, dpD]
  | .int _, _ => by simp [PyData.depth, dpD]
  | .str x, _ => by simp [PyData.depth, dpD]
  | .list ds, h => by simp only [PyData.depth, dpD]; have := depthL_dp ds h.2; omega
  | .tuple ds, h => by simp only [PyData.depth, dpD]; have := depthL_dp ds h.2; omega
  | .dict _, h => h.elim
theorem depthL_dp : ∀ ds : List D, okL ds → PyData.depthAll ds ≤ dpL ds + 1
  | [], _ => by simp [PyData.depthAll, dpL]
  | d :: ds, h => by
    unfold okL at h
    simp only [PyData.depthAll, dpL]; have := depth_dp d h.1; have := depthL_dp ds h.2; omega
end
theorem shaped_ok {d : D} (h : okD d) (h2 : dpD d ≤ 60) : SeqAt.shaped d = true := by
  unfold SeqAt.shaped
  have := depth_dp d h
  rw [canLay_ok d h, decide_eq_true (by omega)]; rfl
theorem q_eqL {x y : List D} (hx : SeqAt.shaped (.list x) = true) (hy : SeqAt.shaped (.list y) = true) : gCmp .eq (.list x) (.list y) = some (.val (.bool (PyData.eqvAll x y))) := by
  show bl (if (SeqAt.shaped (.list x) && SeqAt.shaped (.list y)) = true then _ else _) = _
  rw [hx, hy]
  show some (Slot.val (.bool (PyData.eqv (.list x) (.list y)))) = _
  rw [PyData.eqv]
theorem q_eqT {x y : List D} (hx : SeqAt.shaped (.tuple x) = true) (hy : SeqAt.shaped (.tuple y) = true) : gCmp .eq (.tuple x) (.tuple y) = some (.val (.bool (PyData.eqvAll x y))) := by
  show bl (if (SeqAt.shaped (.tuple x) && SeqAt.shaped (.tuple y)) = true then _ else _) = _
  rw [hx, hy]
  show some (Slot.val (.bool (PyData.eqv (.tuple x) (.tuple y)))) = _
  rw [PyData.eqv]
theorem q_neL {x y : List D} (hx : SeqAt.shaped (.list x) = true) (hy : SeqAt.shaped (.list y) = true) : gCmp .ne (.list x) (.list y) = some (.val (.bool (!PyData.eqvAll x y))) := by
  show bl (Option.map _ (if (SeqAt.shaped (.list x) && SeqAt.shaped (.list y)) = true then _ else _)) = _
  rw [hx, hy]
  show some (Slot.val (.bool (!PyData.eqv (.list x) (.list y)))) = _
  rw [PyData.eqv]
theorem q_neT {x y : List D} (hx : SeqAt.shaped (.tuple x) = true) (hy : SeqAt.shaped (.tuple y) = true) : gCmp .ne (.tuple x) (.tuple y) = some (.val (.bool (!PyData.eqvAll x y))) := by
  show bl (Option.map _ (if (SeqAt.shaped (.tuple x) && SeqAt.shaped (.tuple y)) = true then _ else _)) = _
  rw [hx, hy]
  show some (Slot.val (.bool (!PyData.eqv (.tuple x) (.tuple y)))) = _
  rw [PyData.eqv]
theorem ea_nn : PyData.eqvAll [] [] = true := by rw [PyData.eqvAll]
theorem ea_cn {a : D} {l : List D} : PyData.eqvAll (a :: l) [] = false := by rw [PyData.eqvAll]
theorem ea_nc {a : D} {l : List D} : PyData.eqvAll [] (a :: l) = false := by rw [PyData.eqvAll]
theorem ea_cc {a b : D} {l m : List D} : PyData.eqvAll (a :: l) (b :: m) = (PyData.eqv a b && PyData.eqvAll l m) := by rw [PyData.eqvAll]
theorem ev_i {i j : Int} : PyData.eqv (.int i) (.int j) = decide (i = j) := by rw [PyData.eqv, beq_dec]
theorem ev_t {l m : List D} : PyData.eqv (.tuple l) (.tuple m) = PyData.eqvAll l m := by rw [PyData.eqv]
theorem ev_l {l m : List D} : PyData.eqv (.list l) (.list m) = PyData.eqvAll l m := by rw [PyData.eqv]
theorem ea_ne {l : List D} : PyData.eqvAll l [] = l.isEmpty := by
  cases l with
  | nil => exact ea_nn
  | cons a l => exact ea_cn
theorem ea_ints : ∀ {l m : List Int}, PyData.eqvAll (l.map .int) (m.map .int) = decide (l = m)
  | [], [] => by rw [List.map_nil, ea_nn]; rfl
  | [], _ :: _ => by rw [List.map_nil, List.map_cons, ea_nc]; simp
  | _ :: _, [] => by rw [List.map_nil, List.map_cons, ea_cn]; simp
  | a :: l, b :: m => by
    rw [List.map_cons, List.map_cons, ea_cc, ev_i, ea_ints (l := l) (m := m)]
    simp only [List.cons.injEq, Bool.decide_and]
theorem okL_mem : ∀ {ds : List D} {d : D}, okL ds → d ∈ ds → okD d
  | d' :: ds, d, h, m => by
    unfold okL at h
    cases m with
    | head => exact h.1
    | tail _ m => exact okL_mem h.2 m
theorem dpL_mem : ∀ {ds : List D} {d : D}, d ∈ ds → dpD d ≤ dpL ds
  | d' :: ds, d, m => by
    unfold dpL
    cases m with
    | head => omega
    | tail _ m => have := dpL_mem m; omega
theorem okL_map {α : Type} (f : α → D) (h : ∀ a, okD (f a)) : ∀ l : List α, okL (l.map f)
  | [] => by simp [okL]
  | a :: l => by simp only [List.map_cons, okL]; exact ⟨h a, okL_map f h l⟩
theorem dpL_map {α : Type} (f : α → D) (k : Nat) (h : ∀ a, dpD (f a) ≤ k) : ∀ l : List α, dpL (l.map f) ≤ k
  | [] => by simp [dpL]
  | a :: l => by simp only [List.map_cons, dpL]; have := h a; have := dpL_map f k h l; omega
theorem okL_int : ∀ l : List Int, okL (l.map .int)
  | [] => by simp [okL]
  | i :: l => by simp only [List.map_cons, okL, okD, true_and]; exact okL_int l
theorem dpL_int : ∀ l : List Int, dpL (l.map .int) = 0
  | [] => by simp [dpL]
  | i :: l => by simp only [List.map_cons, dpL, dpD, dpL_int l]; rfl
theorem rng_get {lo : Int} {n i : Nat} {x : D} (h : (rngL lo n)[i]? = some x) : x = .int (lo + (i : Nat)) ∧ i < n := by
  unfold rngL at h
  rw [List.getElem?_map] at h
  obtain ⟨k, hk, rfl⟩ := Option.map_eq_some_iff.mp h
  obtain ⟨h1, h2⟩ := List.getElem?_eq_some_iff.mp hk
  rw [List.length_range] at h1
  rw [List.getElem_range] at h2
  subst h2
  exact ⟨rfl, h1⟩
end Ev
namespace Ev
open PySem
def rngI (lo : Int) (n : Nat) : List Int := (List.range n).map fun k => lo + (k : Nat)
theorem rng_ints {lo : Int} {n : Nat} : rngL lo n = (rngI lo n).map .int := by
  unfold rngL rngI; rw [List.map_map]; rfl
theorem rngI_mem {lo x : Int} {n : Nat} (h : x ∈ rngI lo n) : lo ≤ x ∧ x < lo + n := by
  unfold rngI at h
  obtain ⟨k, hk, rfl⟩ := List.mem_map.mp h
  have := List.mem_range.mp hk
  omega
theorem rngI_len {lo : Int} {n : Nat} : (rngI lo n).length = n := by unfold rngI; rw [List.length_map, List.length_range]
theorem fm_true : ∀ (xs : List D), xs.filterMap (fun _ => some (PyData.bool true)) = (List.replicate xs.length true).map .bool
  | [] => rfl
  | x :: xs => by
    rw [List.length_cons, List.replicate_succ, List.map_cons, ← fm_true xs]; rfl
theorem all_true (k : Nat) : (List.replicate k true).all id = true := by simp
def isT1 : CR → Bool
  | .ret (.val (.bool true)) [] => true
  | _ => false
theorem isT1_eq {r : CR} (h : isT1 r = true) : r = .ret (.val (.bool true)) [] := by
  unfold isT1 at h
  split at h
  · rfl
  · cases h
end Ev
namespace Ev
open PySem
theorem while_fw2 {Z : Zs} {c : Env → R Bool} {b : Env → F} {e0 : Env} {k : Env → F} {N m0 : Nat} (J : Nat → Env → Prop) (h0 : J m0 e0) (hm : m0 < N)
    (hs : ∀ m e, J m e → (∃ e1, c e = .ok true e1 ∧ Fw (b e1) { nx := fun e2 => ∃ m', m' < m ∧ J m' e2, rt := Z.rt, bk := fun e => Fw (k e) Z, ct := fun e2 => ∃ m', m' < m ∧ J m' e2, xc := Z.xc }) ∨ (∃ e1, c e = .ok false e1 ∧ Fw (k e1) Z)) :
    Fw (F.seq (whileL c b N e0) k) Z := by
  induction N generalizing e0 m0 with
  | zero => omega
  | succ N ih =>
    show Fw (F.seq (R.flow (c e0) fun k e => if k then (b e).turn (whileL c b N) else .next e) k) Z
    rcases hs m0 e0 h0 with ⟨e1, h1, h2⟩ | ⟨e1, h1, h2⟩
    · rw [h1]
      show Fw (F.seq (F.turn (b e1) (whileL c b N)) k) Z
      cases hf : b e1 with
      | next e => rw [hf] at h2; obtain ⟨m', h3, h4⟩ := h2.go; exact ih h4 (by omega)
      | ret s e => rw [hf] at h2; exact ⟨h2.go⟩
      | brk e => rw [hf] at h2; exact h2.go
      | cont e => rw [hf] at h2; obtain ⟨m', h3, h4⟩ := h2.go; exact ih h4 (by omega)
      | exc _ _ _ => rw [hf] at h2; exact ⟨h2.go⟩
      | no => rw [hf] at h2; exact h2.go.elim
    · rw [h1]; exact h2
theorem repL_map {α β : Type} (f : α → β) (k : Nat) (l : List α) : repL k (l.map f) = (repL k l).map f := by
  unfold repL
  induction k with
  | zero => rfl
  | succ k ih => rw [List.replicate_succ, List.replicate_succ, List.flatten_cons, List.flatten_cons, ih, List.map_append]
theorem repL_len {α : Type} (k : Nat) (l : List α) : (repL k l).length = k * l.length := by
  unfold repL
  induction k with
  | zero => simp
  | succ k ih => rw [List.replicate_succ, List.flatten_cons, List.length_append, ih, Nat.succ_mul]; omega
theorem repU_ok {k : Int} {n : Nat} (h : 1 ≤ k) (h2 : k ≤ 1000) (h3 : n ≤ 1000) : repOkU k n = true := by
  unfold repOkU repOkT
  by_cases h4 : k = 1
  · subst h4; simp
  · by_cases h5 : n = 0
    · subst h5; simp; omega
    · have : 2 ≤ k ∧ 1 ≤ n := by omega
      simp [this, h2, h3]
end Ev
namespace Ev
open PySem
theorem ea_map {α : Type} (f g : α → D) : ∀ l : List α, PyData.eqvAll (l.map f) (l.map g) = l.all fun x => PyData.eqv (f x) (g x)
  | [] => by rw [List.map_nil, List.map_nil, ea_nn]; rfl
  | a :: l => by rw [List.map_cons, List.map_cons, ea_cc, ea_map f g l]; rfl
theorem cut_len {α : Type} (xs : List α) (lo hi : Option Int) : (cutD xs lo hi).length ≤ xs.length := by
  unfold cutD; rw [List.length_take, List.length_drop]; omega
end Ev
namespace Ev
open PySem
/-! a def's body in two pieces -/
theorem seq_base {C : Ctx} {e : Env} {r : Sx} : r C e = F.seq (sPass C e) (r C) := rfl
theorem seq_as {C : Ctx} {e : Env} {a b b' r : Sx} (h : ∀ e, b C e = F.seq (b' C e) (r C)) : sSeq a b C e = F.seq (sSeq a b' C e) (r C) := by
  show F.seq (a C e) (b C) = F.seq (F.seq (a C e) (b' C)) (r C)
  cases a C e with
  | next e => exact h e
  | _ => rfl
def chkF (t : Env → Bool) : F → Bool
  | .next e => t e
  | _ => false
theorem chkF_eq {t : Env → Bool} {f : F} (h : chkF t f = true) : ∃ e, f = .next e ∧ t e = true := by
  cases f with
  | next e => exact ⟨e, rfl, h⟩
  | _ => cases h
end Ev
namespace Ev
open PySem
/-- a comprehension over coded things, each turn changing nothing -/
theorem lcK_map {α : Type} {f : D → Env → R (Option D)} {vs : List Nat} {e : Env} (enc : α → D) (l : List α) (g : α → D) (hn : noOwn e vs = true) (hl : l.length ≤ sizeLine)
    (h : ∀ x ∈ l, f (enc x) (wipeE e vs) = .ok (some (g x)) (wipeE e vs)) (hr : restE e (wipeE e vs) vs = e) : lcK f vs (l.map enc) e = .ok (.own (l.map g)) e := by
  have key : ∀ (ys : List α) (n : Nat), (∀ x ∈ ys, x ∈ l) → n + ys.length ≤ sizeLine → loopL f n (ys.map enc) (wipeE e vs) = .ok (ys.map g) (wipeE e vs) := by
    intro ys
    induction ys with
    | nil => intros; rfl
    | cons y ys ih =>
      intro n hs hn
      rw [List.length_cons] at hn
      show (f (enc y) (wipeE e vs)).bind _ = _
      rw [h y (hs y (List.mem_cons_self ..)), bind_ok]
      show (if decide (n < sizeLine) = true then (loopL f (n + 1) (ys.map enc) (wipeE e vs)).bind _ else _) = _
      rw [if_pos (decide_eq_true (by omega)), ih (n + 1) (fun x hx => hs x (List.mem_cons_of_mem _ hx)) (by omega)]
      rfl
  unfold lcK
  rw [if_pos hn, key l 0 (fun _ h => h) (by omega)]
  show R.ok _ (restE e (wipeE e vs) vs) = _
  rw [hr]
end Ev
namespace Ev
open PySem
theorem okL_iff : ∀ {ds : List D}, okL ds ↔ ∀ d ∈ ds, okD d
  | [] => by simp [okL]
  | d :: ds => by simp only [okL, okL_iff (ds := ds), List.mem_cons, forall_eq_or_imp]
theorem dpL_iff {k : Nat} : ∀ {ds : List D}, dpL ds ≤ k ↔ ∀ d ∈ ds, dpD d ≤ k
  | [] => by simp [dpL]
  | d :: ds => by
    simp only [dpL, List.mem_cons, forall_eq_or_imp, ← dpL_iff (ds := ds)]
    omega
theorem cut_mem {α : Type} {xs : List α} {lo hi : Option Int} {x : α} (h : x ∈ cutD xs lo hi) : x ∈ xs := by
  unfold cutD at h
  exact List.mem_of_mem_drop (List.mem_of_mem_take h)
end Ev
namespace Ev
open PySem
theorem lcK_filt {α : Type} {f : D → Env → R (Option D)} {vs : List Nat} {e : Env} (enc : α → D) (l : List α) (p : α → Bool) (g : α → D) (hn : noOwn e vs = true) (hl : l.length ≤ sizeLine)
    (h : ∀ x ∈ l, f (enc x) (wipeE e vs) = .ok (if p x = true then some (g x) else none) (wipeE e vs)) (hr : restE e (wipeE e vs) vs = e) : lcK f vs (l.map enc) e = .ok (.own ((l.filter p).map g)) e := by
  have key : ∀ (ys : List α) (n : Nat), (∀ x ∈ ys, x ∈ l) → n + ys.length ≤ sizeLine → loopL f n (ys.map enc) (wipeE e vs) = .ok ((ys.filter p).map g) (wipeE e vs) := by
    intro ys
    induction ys with
    | nil => intros; rfl
    | cons y ys ih =>
      intro n hs hn
      rw [List.length_cons] at hn
      show (f (enc y) (wipeE e vs)).bind _ = _
      rw [h y (hs y (List.mem_cons_self ..)), bind_ok]
      cases hp : p y with
      | false =>
        rw [List.filter_cons_of_neg (by simp [hp])]
        exact ih n (fun x hx => hs x (List.mem_cons_of_mem _ hx)) (by omega)
      | true =>
        rw [List.filter_cons_of_pos (by simp [hp])]
        show (if decide (n < sizeLine) = true then (loopL f (n + 1) (ys.map enc) (wipeE e vs)).bind _ else _) = _
        rw [if_pos (decide_eq_true (by omega)), ih (n + 1) (fun x hx => hs x (List.mem_cons_of_mem _ hx)) (by omega)]
        rfl
  unfold lcK
  rw [if_pos hn, key l 0 (fun _ h => h) (by omega)]
  show R.ok _ (restE e (wipeE e vs) vs) = _
  rw [hr]
end Ev
end
section
set_option linter.all false
set_option maxRecDepth 100000
/-! a run by rewriting: instances, methods of texts, f-texts -/
namespace Ev
open PySem
section
variable {C : Ctx} {e : Env} {c : Str} {k fi : Nat} {a : Ex} {ds : List D} {α : Type}
theorem cFld_eq : cFld c k a = c1 (gFld c k) a := nr rfl
theorem gFld_snap : gFld c k (snap c ds) = (ds[k]?).map .val := by
  show (if c = c then (ds[k]?).map Slot.val else none) = _
  rw [if_pos rfl]
def prpK (c : Str) (fi : Nat) (C : Ctx) : D → Env → R Slot := fun d e => if isInst c d then noX (back [] e (C.call fi [.val d])) else .no
theorem cPrp_ap : cPrp c fi a C e = (val (a C e)).bind (prpK c fi C) := nr rfl
theorem isInst_snap : isInst c (snap c ds) = true := by
  show decide (c = c) = true
  exact decide_eq_true rfl
theorem prpK_ap : prpK c fi C (snap c ds) e = noX (back [] e (C.call fi [.val (snap c ds)])) := by
  show (if isInst c (snap c ds) then _ else _) = _
  rw [if_pos isInst_snap]
theorem noX_ok {x : α} : noX (.ok x e) = .ok x e := nr rfl
/-! methods of texts and lists -/
def mbK2 (m : MB) (x : D) : List D → Env → R Slot := fun ds e => R.opt (mbD m x ds) e
def mbK1 (m : MB) (as : List Ex) (x : D) (C : Ctx) : Unit → Env → R Slot := fun _ e => (evs C as e).bind (mbK2 m x)
def mbK (m : MB) (as : List Ex) (C : Ctx) : D → Env → R Slot := fun x e => (R.opt (recv m x) e).bind (mbK1 m as x C)
theorem cMb_ap {m : MB} {o : Ex} {as : List Ex} : cMb m o as C e = (val (o C e)).bind (mbK m as C) := nr rfl
theorem mbK_ap {m : MB} {as : List Ex} {x : D} : mbK m as C x e = (R.opt (recv m x) e).bind (mbK1 m as x C) := nr rfl
theorem mbK1_ap {m : MB} {as : List Ex} {x : D} {u : Unit} : mbK1 m as x C u e = (evs C as e).bind (mbK2 m x) := nr rfl
theorem mbK2_ap {m : MB} {x : D} : mbK2 m x ds e = R.opt (mbD m x ds) e := nr rfl
theorem rc_ixl {l : List D} : recv .index (.list l) = some () := nr rfl
theorem rc_spl {x : Str} : recv .split (.str x) = some () := nr rfl
theorem rc_joi {x : Str} : recv .join (.str x) = some () := nr rfl
/-! f-texts -/
def fK3 (ms : List Ex) (acc w : List Nat) (C : Ctx) (e : Env) : R (List Nat) := if (acc ++ w).length ≤ sizeLine then evF C ms (acc ++ w) e else .no
def fK2 (ms : List Ex) (acc : List Nat) (C : Ctx) : List Nat → Env → R (List Nat) := fun w e => fK3 ms acc w C e
def fK1 (ms : List Ex) (acc : List Nat) (C : Ctx) : D → Env → R (List Nat) := fun x e => (R.opt (fmtD x) e).bind (fK2 ms acc C)
def fK0 : List Nat → Env → R Slot := fun l e => .ok (.val (.str (S l))) e
theorem cFst_ap {ps : List Ex} : cFst ps C e = (evF C ps [] e).bind fK0 := nr rfl
theorem fK0_ap {l : List Nat} : fK0 l e = .ok (.val (.str (S l))) e := nr rfl
theorem evF_nil {acc : List Nat} : evF C [] acc e = .ok acc e := nr rfl
theorem evF_cons {m : Ex} {ms : List Ex} {acc : List Nat} : evF C (m :: ms) acc e = (val (m C e)).bind (fK1 ms acc C) := by
  show (val (m C e)).bind _ = _
  congr 1
  funext x e
  show (R.opt (fmtD x) e).bind _ = (R.opt (fmtD x) e).bind _
  congr 1
  funext w e
  unfold fK2 fK3
  by_cases h : (acc ++ w).length ≤ sizeLine
  · rw [if_pos h, if_pos (decide_eq_true h)]
  · rw [if_neg h, if_neg (by simpa using h)]
theorem fK1_ap {ms : List Ex} {acc : List Nat} {x : D} : fK1 ms acc C x e = (R.opt (fmtD x) e).bind (fK2 ms acc C) := nr rfl
theorem fK2_ap {ms : List Ex} {acc w : List Nat} : fK2 ms acc C w e = if (acc ++ w).length ≤ sizeLine then evF C ms (acc ++ w) e else .no := nr rfl
/-! loops -/
theorem Fw.nxt {f : F} {Q : Env → Prop} (h : Fw f { nx := Q }) : ∃ e, f = .next e ∧ Q e := by
  cases f with
  | next e => exact ⟨e, rfl, h.go⟩
  | ret s e => exact h.go.elim
  | brk e => exact h.go.elim
  | cont e => exact h.go.elim
  | exc _ _ _ => exact h.go.elim
  | no => exact h.go.elim
theorem seq_nxt {f : F} : F.seq f .next = f := by cases f <;> rfl
/-! constructors -/
def newS (c : Str) (C : Ctx) (r : List Stg) (fs : List D) : R Slot → CR
  | .ok (.val d) (_ :: e1) => if fldB d && e1.all okS then newG c C r (fs ++ [d]) e1 else .no
  | .exc x ds _ => .exc x ds []
  | _ => .no
def newA (c : Str) (C : Ctx) (r : List Stg) (fs : List D) : F → CR
  | .next (_ :: e1) => if e1.all okS then newG c C r fs e1 else .no
  | .exc x ds _ => .exc x ds []
  | _ => .no
theorem newG_nil {fs : List D} : newG c C [] fs e = .ret (.val (snap c fs)) [] := nr rfl
theorem newG_set {m : Ex} {r : List Stg} {fs : List D} : newG c C (.set m :: r) fs e = newS c C r fs (m C (some (.val (snap c fs)) :: e)) := by
  rw [newG]
  cases m C (some (.val (snap c fs)) :: e) with
  | ok s e1 => cases s <;> cases e1 <;> rfl
  | exc _ _ _ => rfl
  | no => rfl
theorem newG_act {s : Sx} {r : List Stg} {fs : List D} : newG c C (.act s :: r) fs e = newA c C r fs (s C (some (.val (snap c fs)) :: e)) := by
  rw [newG]
  cases s C (some (.val (snap c fs)) :: e) with
  | next e1 => cases e1 <;> rfl
  | _ => rfl
theorem newS_ok {r : List Stg} {fs : List D} {d : D} {o : Option Slot} {e1 : Env} (h1 : fldB d = true) (h2 : e1.all okS = true) : newS c C r fs (.ok (.val d) (o :: e1)) = newG c C r (fs ++ [d]) e1 := by
  show (if (fldB d && e1.all okS) = true then _ else _) = _
  rw [h1, h2]; rfl
theorem newA_ok {r : List Stg} {fs : List D} {o : Option Slot} {e1 : Env} (h2 : e1.all okS = true) : newA c C r fs (.next (o :: e1)) = newG c C r fs e1 := by
  show (if (e1.all okS) = true then _ else _) = _
  rw [h2]; rfl
def newK (e : Env) : CR → F
  | .ret s _ => .ret s e
  | .exc x ds _ => .exc x ds e
  | .no => .no
theorem bNew_ap {g : List Stg} {loc : Nat} (h : e.all okS = true) : bNew c g loc C e = newK e (newG c C g [] (e ++ List.replicate loc none)) := by
  unfold bNew newK
  first
    | (rw [if_pos h]; done)
    | (rw [if_pos h]; cases newG c C g [] (e ++ List.replicate loc none) <;> rfl)
theorem newK_ret {s : Slot} {ps : List (Option Slot)} : newK e (.ret s ps) = .ret s e := nr rfl
end
theorem sIx_ng {n d : Nat} {v : Int} (h : v < 0) : sIx n d (some v) = (v + (n : Int)).toNat := if_pos h
theorem cut_init {α : Type} {xs : List α} {a : α} : cutD (xs ++ [a]) none (some (-1)) = xs := by
  unfold cutD
  rw [sIx_n, sIx_ng (by omega), List.drop_zero, Nat.sub_zero, List.length_append, List.length_singleton, show ((-1 : Int) + ((xs.length + 1 : Nat) : Int)).toNat = xs.length by omega]
  simp
theorem cut_in {α : Type} {a b c : α} {m : List α} : cutD (a :: b :: (m ++ [c])) (some 2) (some (-1)) = m := by
  unfold cutD
  rw [sIx_nn (v := 2) (by omega), sIx_ng (v := -1) (by omega)]
  simp only [List.length_cons, List.length_append, List.length_nil]
  rw [show ((-1 : Int) + ((m.length + (0 + 1) + 1 + 1 : Nat) : Int)).toNat = m.length + 2 by omega, show min (2 : Int).toNat (m.length + (0 + 1) + 1 + 1) = 2 by omega, Nat.add_sub_cancel]
  simp
/-- all([right(..) for ..]) where each turn is right -/
theorem lcK_true {f : D → Env → R (Option D)} {vs : List Nat} {xs : List D} {e : Env} (J : Nat → Env → Prop) (hn : noOwn e vs = true) (hl : xs.length ≤ sizeLine) (h0 : J 0 (wipeE e vs))
    (hs : ∀ i x e, xs[i]? = some x → J i e → ∃ e', f x e = .ok (some (.bool true)) e' ∧ J (i + 1) e') :
    ∃ e', lcK f vs xs e = .ok (.own ((List.replicate xs.length true).map .bool)) (restE e e' vs) ∧ J xs.length e' := by
  obtain ⟨ds, e', h1, rfl, h2⟩ := lcK_inv (f := f) (vs := vs) (xs := xs) (e := e) (fun i ds e => ds = (List.replicate i true).map .bool ∧ J i e) hn hl ⟨rfl, h0⟩ (fun i x ds e hx hd ⟨h1, h2⟩ => by
    obtain ⟨e', h3, h4⟩ := hs i x e hx h2
    refine ⟨_, e', h3, ?_, h4⟩
    rw [h1, List.replicate_succ', List.map_append]; rfl)
  exact ⟨e', h1, h2⟩
theorem lcK_all {f : D → Env → R (Option D)} {vs : List Nat} {xs : List D} {e : Env} (J : Nat → Env → Prop) (hn : noOwn e vs = true) (hl : xs.length ≤ sizeLine) (h0 : J 0 (wipeE e vs))
    (hs : ∀ i x e, xs[i]? = some x → J i e → ∃ e', f x e = .ok (some (.bool true)) e' ∧ J (i + 1) e') :
    ∃ tt e', lcK f vs xs e = .ok (.own tt) (restE e e' vs) ∧ biD .all [.list tt] = some (.val (.bool true)) ∧ J xs.length e' := by
  obtain ⟨e', h1, h2⟩ := lcK_true J hn hl h0 hs
  refine ⟨_, e', h1, ?_, h2⟩
  show (boolsD ((List.replicate xs.length true).map PyData.bool)).map (fun l => Slot.val (PyData.bool (l.all id))) = _
  rw [bools_map]
  simp
/-! data that is the same -/
mutual
def dEq : D → D → Bool
  | .none, .none => true
  | .bool a, .bool b => a == b
  | .int a, .int b => decide (a = b)
  | .str a, .str b => decide (a = b)
  | .list a, .list b => dEqL a b
  | .tuple a, .tuple b => dEqL a b
  | _, _ => false
def dEqL : List D → List D → Bool
  | [], [] => true
  | a :: as, b :: bs => dEq a b && dEqL as bs
  | _, _ => false
end
mutual
theorem dEq_ok : ∀ a b : D, dEq a b = true → a = b
  | .none, b, h => by cases b <;> first | rfl | (unfold dEq at h; cases h)
  | .bool a, b, h => by cases b <;> first | (unfold dEq at h; rw [eq_of_beq h]) | (unfold dEq at h; cases h)
  | .int a, b, h => by cases b <;> first | (unfold dEq at h; rw [of_decide_eq_true h]) | (unfold dEq at h; cases h)
  | .str a, b, h => by cases b <;> first | (unfold dEq at h; rw [of_decide_eq_true h]) | (unfold dEq at h; cases h)
  | .list a, b, h => by
    cases b with
    | list b => unfold dEq at h; rw [dEqL_ok a b h]
    | _ => unfold dEq at h; cases h
  | .tuple a, b, h => by
    cases b with
    | tuple b => unfold dEq at h; rw [dEqL_ok a b h]
    | _ => unfold dEq at h; cases h
  | .dict a, b, h => by cases b <;> (unfold dEq at h; cases h)
theorem dEqL_ok : ∀ a b : List D, dEqL a b = true → a = b
  | [], [], _ => rfl
  | [], _ :: _, h => by unfold dEqL at h; cases h
  | _ :: _, [], h => by unfold dEqL at h; cases h
  | a :: as, b :: bs, h => by
    unfold dEqL at h
    rw [Bool.and_eq_true] at h
    rw [dEq_ok a b h.1, dEqL_ok as bs h.2]
end
end Ev
end
section
set_option linter.all false
/-! plain laws: sorted(set(l)), pop, extend -/
namespace Ev
open PySem
section
variable {C : Ctx} {e : Env}
theorem cSs_eq {a : Ex} : cSs a C e = c1 ssD a C e := nr rfl
theorem insS_ln (x : Int) : ∀ l : List Int, (insS x l).length ≤ l.length + 1
  | [] => Nat.le_refl _
  | y :: ys => by
    unfold insS
    split
    · exact Nat.le_refl _
    · split
      · exact Nat.le_succ _
      · have := insS_ln x ys; simp only [List.length_cons]; omega
theorem sortS_ln : ∀ l : List Int, (sortS l).length ≤ l.length
  | [] => Nat.le_refl _
  | x :: xs => by
    have h1 := insS_ln x (sortS xs)
    have h2 := sortS_ln xs
    show (insS x (sortS xs)).length ≤ _
    rw [List.length_cons]; omega
theorem ss_ints {l : List Int} (h : l.length < 64) : ssD (.list (l.map .int)) = some (.own ((sortS l).map .int)) := by
  have := sortS_ln l
  show (match intsD (l.map PyData.int) with
    | some l => if (decide (l.length < 1000) && decide ((sortS l).length < 64)) = true then some (Slot.own ((sortS l).map .int)) else none
    | none => none) = _
  rw [ints_map]
  exact if_pos (by rw [decide_eq_true (show l.length < 1000 by omega), decide_eq_true (show (sortS l).length < 64 by omega)]; rfl)
def popK0 (i : Nat) (ix : Ex) (C : Ctx) (e : Env) : Option Slot → R Slot
  | some (.own _) => (val (ix C e)).bind (popK i)
  | _ => .no
theorem cPop_ap {i : Nat} {ix : Ex} : cPop i ix C e = popK0 i ix C e (getS e i) := by
  show (R.opt (ownS e i) e).bind _ = _
  unfold ownS popK0
  cases getS e i with
  | none => rfl
  | some s => cases s <;> rfl
theorem popK0_own {i : Nat} {ix : Ex} {ds : List D} : popK0 i ix C e (some (.own ds)) = (val (ix C e)).bind (popK i) := nr rfl
def popF (i : Nat) (e : Env) : Option (List D × D) → R Slot
  | some p => .ok (.val p.2) (e.set i (some (.own p.1)))
  | none => .no
theorem popF_some {i : Nat} {l : List D} {d : D} : popF i e (some (l, d)) = .ok (.val d) (e.set i (some (.own l))) := nr rfl
theorem popK_ap {i : Nat} {y : D} : popK i y e = popF i e (popD (getS e i) y) := by
  unfold popK popF
  cases popD (getS e i) y <;> rfl
theorem popD_own {ds : List D} {k : Int} (h0 : 0 ≤ k) (h : k < ds.length) (h2 : k < 2 ^ 62) : popD (some (.own ds)) (.int k) = some (ds.eraseIdx k.toNat, ds[k.toNat]'(by omega)) := by
  have e : rngOk k = true := by unfold rngOk; rw [decide_eq_true (show -(2 ^ 62) ≤ k by omega), decide_eq_true h2]; rfl
  show (if rngOk k = true then (ixOf ds.length k).bind fun j => (ds[j]?).map fun d => (ds.eraseIdx j, d) else none) = _
  rw [if_pos e, ix_nn h0 h]
  show (ds[k.toNat]?).map _ = _
  rw [List.getElem?_eq_getElem]
  rfl
def extK2 (i : Nat) : D → Env → F := fun d e => setF i e (extD (getS e i) d)
def extK0 (i : Nat) (m : Ex) (C : Ctx) (e : Env) : Option Slot → F
  | some (.own _) => R.flow (val (m C e)) (extK2 i)
  | _ => .no
theorem sExt_ap {i : Nat} {m : Ex} : sExt i m C e = extK0 i m C e (getS e i) := by
  have h : extK2 i = fun d e => orNo ((extD (getS e i) d).map fun s => .next (e.set i (some s))) := by
    funext d e; unfold extK2 setF; cases extD (getS e i) d <;> rfl
  show (R.opt (ownS e i) e).flow _ = _
  unfold ownS extK0
  rw [h]
  cases getS e i with
  | none => rfl
  | some s => cases s <;> rfl
theorem extK0_own {i : Nat} {m : Ex} {ds : List D} : extK0 i m C e (some (.own ds)) = R.flow (val (m C e)) (extK2 i) := nr rfl
theorem extK2_ap {i : Nat} {d : D} : extK2 i d e = setF i e (extD (getS e i) d) := nr rfl
theorem extD_own {ds es : List D} : extD (some (.own ds)) (.list es) = if ds.length + es.length ≤ sizeLine then some (.own (ds ++ es)) else none := by
  show (if decide (ds.length + es.length ≤ sizeLine) = true then _ else _) = _
  simp only [decide_eq_true_eq]
/-! len of an instance, or not -/
def lenIK (c : Str) (fi : Nat) (C : Ctx) : D → Env → R Slot := fun d e => if isInst c d then (noX (back [] e (C.call fi [.val d]))).bind lenK else opn (biD .len [d]) e
theorem cLenI_ap {c : Str} {fi : Nat} {a : Ex} : cLenI c fi a C e = (val (a C e)).bind (lenIK c fi C) := nr rfl
theorem lenIK_l {c : Str} {fi : Nat} {xs : List D} : lenIK c fi C (.list xs) e = .ok (.val (.int xs.length)) e := nr rfl
theorem lenIK_t {c : Str} {fi : Nat} {xs : List D} : lenIK c fi C (.tuple xs) e = .ok (.val (.int xs.length)) e := nr rfl
theorem lenIK_snap {c : Str} {fi : Nat} {ds : List D} : lenIK c fi C (snap c ds) e = (noX (back [] e (C.call fi [.val (snap c ds)]))).bind lenK := by
  unfold lenIK
  rw [isInst_snap]; rfl
theorem lenK_nn {k : Int} (h0 : 0 ≤ k) (h1 : k < 2 ^ 62) : lenK (.val (.int k)) e = .ok (.val (.int k)) e := by
  show (if (decide (0 ≤ k) && decide (k < 2 ^ 62)) = true then _ else _) = _
  rw [decide_eq_true h0, decide_eq_true h1]; rfl
end
end Ev
end
section
set_option linter.all false
/-! a by-hand part, statement by statement: what stands behind each is checked by running it -/
namespace Ev
open PySem
def atE : D → D → Bool
  | .none, .none => true
  | .bool a, .bool b => a == b
  | .int a, .int b => decide (a = b)
  | .str a, .str b => decide (a = b)
  | _, _ => false
theorem atE_ok {a b : D} (h : atE a b = true) : a = b := by
  unfold atE at h
  split at h
  · rfl
  · rw [eq_of_beq h]
  · rw [of_decide_eq_true h]
  · rw [of_decide_eq_true h]
  · cases h
def atEs : List D → List D → Bool
  | [], [] => true
  | a :: l, b :: m => atE a b && atEs l m
  | _, _ => false
theorem atEs_ok : ∀ {a b : List D}, atEs a b = true → a = b
  | [], [], _ => rfl
  | [], _ :: _, h => by cases h
  | _ :: _, [], h => by cases h
  | a :: l, b :: m, h => by
    have h : (atE a b && atEs l m) = true := h
    rw [Bool.and_eq_true] at h
    rw [atE_ok h.1, atEs_ok h.2]
def fE : D → D → Bool
  | .tuple a, .tuple b => atEs a b
  | a, b => atE a b
theorem fE_ok {a b : D} (h : fE a b = true) : a = b := by
  unfold fE at h
  split at h
  · rw [atEs_ok h]
  · exact atE_ok h
def fEs : List D → List D → Bool
  | [], [] => true
  | a :: l, b :: m => fE a b && fEs l m
  | _, _ => false
theorem fEs_ok : ∀ {a b : List D}, fEs a b = true → a = b
  | [], [], _ => rfl
  | [], _ :: _, h => by cases h
  | _ :: _, [], h => by cases h
  | a :: l, b :: m, h => by
    have h : (fE a b && fEs l m) = true := h
    rw [Bool.and_eq_true] at h
    rw [fE_ok h.1, fEs_ok h.2]
def dcE : List (D × D) → List (D × D) → Bool
  | [(.str a, .tuple x)], [(.str b, .tuple y)] => decide (a = b) && fEs x y
  | _, _ => false
theorem dcE_ok {a b : List (D × D)} (h : dcE a b = true) : a = b := by
  unfold dcE at h
  split at h
  · rw [Bool.and_eq_true] at h
    rw [of_decide_eq_true h.1, fEs_ok h.2]
  · cases h
mutual
def dEqX : D → D → Bool
  | .none, .none => true
  | .bool a, .bool b => a == b
  | .int a, .int b => decide (a = b)
  | .str a, .str b => decide (a = b)
  | .list a, .list b => dEqXs a b
  | .tuple a, .tuple b => dEqXs a b
  | .dict a, .dict b => dcE a b
  | _, _ => false
def dEqXs : List D → List D → Bool
  | [], [] => true
  | a :: l, b :: m => dEqX a b && dEqXs l m
  | _, _ => false
end
mutual
theorem dEqX_ok : ∀ a b : D, dEqX a b = true → a = b
  | .none, b, h => by cases b <;> first | rfl | (unfold dEqX at h; cases h)
  | .bool a, b, h => by cases b <;> first | (unfold dEqX at h; rw [eq_of_beq h]) | (unfold dEqX at h; cases h)
  | .int a, b, h => by cases b <;> first | (unfold dEqX at h; rw [of_decide_eq_true h]) | (unfold dEqX at h; cases h)
  | .str a, b, h => by cases b <;> first | (unfold dEqX at h; rw [of_decide_eq_true h]) | (unfold dEqX at h; cases h)
  | .list a, b, h => by
    cases b with
    | list b => unfold dEqX at h; rw [dEqXs_ok a b h]
    | _ => unfold dEqX at h; cases h
  | .tuple a, b, h => by
    cases b with
    | tuple b => unfold dEqX at h; rw [dEqXs_ok a b h]
    | _ => unfold dEqX at h; cases h
  | .dict a, b, h => by
    cases b with
    | dict b => unfold dEqX at h; rw [dcE_ok h]
    | _ => unfold dEqX at h; cases h
theorem dEqXs_ok : ∀ a b : List D, dEqXs a b = true → a = b
  | [], [], _ => rfl
  | [], _ :: _, h => by unfold dEqXs at h; cases h
  | _ :: _, [], h => by unfold dEqXs at h; cases h
  | a :: l, b :: m, h => by
    unfold dEqXs at h
    rw [Bool.and_eq_true] at h
    rw [dEqX_ok a b h.1, dEqXs_ok l m h.2]
end
def slEq : Option Slot → Option Slot → Bool
  | none, none => true
  | some (.val a), some (.val b) => dEqX a b
  | some (.own a), some (.own b) => dEqXs a b
  | _, _ => false
theorem slEq_ok {a b : Option Slot} (h : slEq a b = true) : a = b := by
  unfold slEq at h
  split at h
  · rfl
  · rw [dEqX_ok _ _ h]
  · rw [dEqXs_ok _ _ h]
  · cases h
def envEq : Env → Env → Bool
  | [], [] => true
  | a :: l, b :: m => slEq a b && envEq l m
  | _, _ => false
theorem envEq_ok : ∀ {a b : Env}, envEq a b = true → a = b
  | [], [], _ => rfl
  | [], _ :: _, h => by cases h
  | _ :: _, [], h => by cases h
  | a :: l, b :: m, h => by
    have h : (slEq a b && envEq l m) = true := h
    rw [Bool.and_eq_true] at h
    rw [slEq_ok h.1, envEq_ok h.2]
theorem stepF {f : F} {e : Env} (h : chkF (envEq e) f = true) : f = .next e := by
  obtain ⟨e', h1, h2⟩ := chkF_eq h
  rw [h1, envEq_ok h2]
def retB : F → Bool
  | .ret (.val (.bool true)) _ => true
  | _ => false
theorem retB_ok {f : F} (h : retB f = true) : F.done [] f = .ret (.val (.bool true)) [] := by
  unfold retB at h
  split at h
  · rfl
  · cases h
end Ev
end
section
set_option linter.all false
set_option maxRecDepth 100000
/-! rewriting: errors raised, caught, looked at -/
namespace Ev
open PySem
section
variable {C : Ctx} {e : Env}
def rsK (c n : Nat) : List D → Env → F := fun ds e => if ds.all flat && decide (ds.length = n) then .exc c ds e else .no
theorem sRaiseX_ap {c n : Nat} {as : List Ex} : sRaiseX c n as C e = (evs C as e).flow (rsK c n) := nr rfl
theorem rsK_i {c : Nat} {i : Int} : rsK c 1 [.int i] e = .exc c [.int i] e := nr rfl
theorem rsK_s {c : Nat} {x : Str} : rsK c 1 [.str x] e = .exc c [.str x] e := nr rfl
theorem rsK_0 {c : Nat} : rsK c 0 [] e = .exc c [] e := nr rfl
def tryK (xs : ExT) (hits : List Nat) (i v : Nat) : F → F
  | .exc c ds e' => if hits.contains c then catchX xs i v c ds e' else .exc c ds e'
  | r => r
theorem sTry_ap {xs : ExT} {hits : List Nat} {i v : Nat} {b : Sx} : sTry xs hits i v b C e = tryK xs hits i v (b C e) := by
  show (match b C e with
    | .exc c ds e' => if hits.contains c then catchX xs i v c ds e' else .exc c ds e'
    | r => r) = _
  cases b C e <;> rfl
theorem tryK_next {xs : ExT} {hits : List Nat} {i v : Nat} : tryK xs hits i v (.next e) = .next e := nr rfl
theorem tryK_ret {xs : ExT} {hits : List Nat} {i v : Nat} {s : Slot} : tryK xs hits i v (.ret s e) = .ret s e := nr rfl
theorem tryK_exc {xs : ExT} {hits : List Nat} {i v c : Nat} {ds : List D} : tryK xs hits i v (.exc c ds e) = if hits.contains c = true then catchX xs i v c ds e else .exc c ds e := nr rfl
theorem tryK_ite {xs : ExT} {hits : List Nat} {i v : Nat} {p : Prop} [Decidable p] {x y : F} : tryK xs hits i v (if p then x else y) = if p then tryK xs hits i v x else tryK xs hits i v y := by split <;> rfl
def catchK (i v : Nat) (ds : List D) (e : Env) : Option (Str × List Str) → F
  | some p => if decide (i < e.length) then .next (((e.set i none).set v (some (.val (xD p.1 p.2 ds)))).set i none) else .no
  | none => .no
theorem catchX_ap {xs : ExT} {i v c : Nat} {ds : List D} : catchX xs i v c ds e = catchK i v ds e xs[c]? := by
  unfold catchX catchK
  cases xs[c]? <;> rfl
theorem catchK_some {i v : Nat} {ds : List D} {p : Str × List Str} : catchK i v ds e (some p) = if i < e.length then .next (((e.set i none).set v (some (.val (xD p.1 p.2 ds)))).set i none) else .no := by
  show (if decide (i < e.length) = true then _ else _) = _
  simp only [decide_eq_true_eq]
theorem isN_x {nm : Str} {fs : List Str} {ds : List D} : isN (xD nm fs ds) = false := nr rfl
theorem cXf_eq {xs : ExT} {f : Str} {a : Ex} : cXf xs f a = c1 (gXf xs f) a := nr rfl
theorem cIsX_eq {y n : List Str} {a : Ex} : cIsX y n a = c1 (gIsX y n) a := nr rfl
end
end Ev
end
section
set_option linter.all false
/-! heaps: the arithmetic -/
namespace Bt
open Ev
def bgt (b : Int) (ss : List Int) : Int := (ss.map fun s => max 0 (s - b)).sum
theorem bgt_nn (b : Int) : ∀ ss, 0 ≤ bgt b ss
  | [] => Int.le_refl _
  | s :: ss => by
    have := bgt_nn b ss
    unfold bgt at *
    simp only [List.map_cons, List.sum_cons]
    omega
theorem bgt_anti {b c : Int} (h : b ≤ c) : ∀ ss, bgt c ss ≤ bgt b ss
  | [] => Int.le_refl _
  | s :: ss => by
    have := bgt_anti h ss
    unfold bgt at *
    simp only [List.map_cons, List.sum_cons]
    omega
theorem bgt_top {b : Int} : ∀ {ss : List Int}, (∀ s ∈ ss, s ≤ b) → bgt b ss = 0
  | [], _ => rfl
  | s :: ss, h => by
    have h1 := h s (List.mem_cons_self ..)
    have h2 := bgt_top (b := b) (ss := ss) fun x hx => h x (List.mem_cons_of_mem _ hx)
    unfold bgt at *
    simp only [List.map_cons, List.sum_cons]
    omega
/-- the law's own sum: what is greater alone -/
theorem bgt_own (b : Int) : ∀ ss : List Int, ((ss.filter fun s => decide (b < s)).map fun s => s - b).sum = bgt b ss
  | [] => rfl
  | s :: ss => by
    have := bgt_own b ss
    unfold bgt at *
    by_cases h : b < s
    · rw [List.filter_cons_of_pos (by simp [h])]
      simp only [List.map_cons, List.sum_cons]
      omega
    · rw [List.filter_cons_of_neg (by simp [h])]
      simp only [List.map_cons, List.sum_cons]
      omega
theorem maxL_ge : ∀ (m : Int) (l : List Int), m ≤ maxL m l ∧ (∀ x ∈ l, x ≤ maxL m l) ∧ (maxL m l = m ∨ maxL m l ∈ l)
  | m, [] => ⟨Int.le_refl _, by simp, .inl rfl⟩
  | m, x :: l => by
    show m ≤ maxL (if x > m then x else m) l ∧ (∀ y ∈ x :: l, y ≤ maxL (if x > m then x else m) l) ∧ (maxL (if x > m then x else m) l = m ∨ maxL (if x > m then x else m) l ∈ x :: l)
    obtain ⟨h1, h2, h3⟩ := maxL_ge (if x > m then x else m) l
    refine ⟨Int.le_trans (by split <;> omega) h1, ?_, ?_⟩
    · intro y hy
      rcases List.mem_cons.mp hy with rfl | hy
      · exact Int.le_trans (by split <;> omega) h1
      · exact h2 y hy
    · rcases h3 with h3 | h3
      · rw [h3]
        split
        · exact .inr (List.mem_cons_self ..)
        · exact .inl rfl
      · exact .inr (List.mem_cons_of_mem _ h3)
/-! sorted -/
theorem ins_mem {x y : Int} : ∀ {l : List Int}, y ∈ insI x l ↔ y = x ∨ y ∈ l
  | [] => by simp [insI]
  | z :: l => by
    unfold insI
    split
    · simp
    · simp only [List.mem_cons, ins_mem (l := l)]
      constructor
      · rintro (h | h | h) <;> simp [h]
      · rintro (h | h | h) <;> simp [h]
theorem sort_mem {y : Int} : ∀ {l : List Int}, y ∈ sortI l ↔ y ∈ l
  | [] => Iff.rfl
  | x :: l => by
    show y ∈ insI x (sortI l) ↔ _
    rw [ins_mem, sort_mem (l := l), List.mem_cons]
theorem ins_len (x : Int) : ∀ l : List Int, (insI x l).length = l.length + 1
  | [] => rfl
  | z :: l => by
    unfold insI
    split
    · rfl
    · simp only [List.length_cons, ins_len x l]
theorem sort_len : ∀ l : List Int, (sortI l).length = l.length
  | [] => rfl
  | x :: l => by
    show (insI x (sortI l)).length = _
    rw [ins_len, sort_len l]; rfl
theorem ins_pw {x : Int} : ∀ {l : List Int}, l.Pairwise (· ≤ ·) → (insI x l).Pairwise (· ≤ ·)
  | [], _ => by simp [insI]
  | z :: l, h => by
    unfold insI
    rw [List.pairwise_cons] at h
    split
    · rename_i hz
      rw [List.pairwise_cons, List.pairwise_cons]
      refine ⟨?_, h⟩
      intro a ha
      rcases List.mem_cons.mp ha with rfl | ha
      · exact hz
      · have := h.1 a ha; omega
    · rename_i hz
      rw [List.pairwise_cons]
      refine ⟨?_, ins_pw h.2⟩
      intro a ha
      rcases ins_mem.mp ha with rfl | ha
      · omega
      · exact h.1 a ha
theorem sort_pw : ∀ l : List Int, (sortI l).Pairwise (· ≤ ·)
  | [] => List.Pairwise.nil
  | x :: l => ins_pw (sort_pw l)
def desc (ss : List Int) : Prop := ss.Pairwise fun a b => b ≤ a
theorem sort_desc (l : List Int) : desc (sortI l).reverse := by
  unfold desc
  rw [List.pairwise_reverse]
  exact sort_pw l
/-- neighbours -/
def descB : List Int → Bool
  | a :: b :: l => decide (b ≤ a) && descB (b :: l)
  | _ => true
theorem descB_iff : ∀ {ss : List Int}, descB ss = true ↔ desc ss
  | [] => by simp [descB, desc]
  | [a] => by simp [descB, desc]
  | a :: b :: l => by
    unfold descB desc
    rw [Bool.and_eq_true, decide_eq_true_eq, descB_iff (ss := b :: l), List.pairwise_cons]
    unfold desc
    constructor
    · rintro ⟨h1, h2⟩
      refine ⟨?_, h2⟩
      intro c hc
      rcases List.mem_cons.mp hc with rfl | hc
      · exact h1
      · have := (List.pairwise_cons.mp h2).1 c hc; omega
    · rintro ⟨h1, h2⟩
      exact ⟨h1 b (List.mem_cons_self ..), h2⟩
theorem descB_zip : ∀ ss : List Int, ((ss.zip ss.tail).all fun p => decide (p.2 ≤ p.1)) = descB ss
  | [] => rfl
  | [a] => rfl
  | a :: b :: l => by
    show (decide (b ≤ a) && (((b :: l).zip l).all fun p => decide (p.2 ≤ p.1))) = _
    have := descB_zip (b :: l)
    rw [show (b :: l).tail = l from rfl] at this
    rw [this]; rfl
theorem desc_snoc {ss : List Int} {x : Int} (h : desc ss) (hx : ∀ s ∈ ss, s < x) : descB (ss ++ [x]) = decide (ss = []) := by
  cases ss with
  | nil => rfl
  | cons a l =>
    rw [decide_eq_false (by simp), Bool.eq_false_iff]
    intro q
    rw [descB_iff] at q
    have q := (List.pairwise_append.mp q).2.2 a (List.mem_cons_self ..) x (List.mem_singleton.mpr rfl)
    have := hx a (List.mem_cons_self ..)
    omega
structure HpOk (w : Int) (ss : List Int) : Prop where
  w0 : 0 ≤ w
  pos : ∀ s ∈ ss, 0 < s
  ds : desc ss
end Bt
end
section
set_option linter.all false
/-! texts of numbers -/
namespace Bt
open Ev PySem
theorem cs_S (l : List Nat) : cs (S l) = l := by unfold cs S; simp
theorem S_cs (x : Str) : S (cs x) = x := by unfold cs S; simp
theorem S_inj {a b : List Nat} : S a = S b ↔ a = b := ⟨fun h => by have := congrArg cs h; rwa [cs_S, cs_S] at this, fun h => by rw [h]⟩
theorem S_beq {a b : List Nat} : (S a == S b) = decide (a = b) := by
  by_cases h : a = b
  · subst h; simp
  · rw [decide_eq_false h, beq_eq_false_iff_ne]
    exact fun q => h (S_inj.mp q)
theorem S_len (a : List Nat) : (S a).length = a.length := by unfold S; rfl
theorem S_app (a b : List Nat) : S a ++ S b = S (a ++ b) := by
  show Str.append (S a) (S b) = _
  unfold Str.append S
  simp
/-! digits -/
theorem digR_ok : ∀ (k n : Nat), n < 10 ^ k → 0 < k → (∀ c ∈ digR k n, isDig c = true) ∧ numOf (digR k n).reverse = n ∧ digR k n ≠ [] ∧ (0 < n → ∀ c, (digR k n).getLast? = some c → c ≠ 48) ∧ (n = 0 → digR k n = [48])
  | 0, n, _, h => by omega
  | k + 1, n, h, _ => by
    unfold digR
    by_cases h9 : n < 10
    · rw [if_pos h9]
      refine ⟨fun c hc => ?_, ?_, by simp, fun hn c hc => ?_, fun h0 => by rw [h0]⟩
      · rw [List.mem_singleton.mp hc]; unfold isDig; simp; omega
      · show numOf [48 + n] = n; unfold numOf; simp
      · simp at hc; omega
    · rw [if_neg h9]
      have hk : 0 < k := by
        rcases Nat.eq_zero_or_pos k with rfl | q
        · simp at h; omega
        · exact q
      obtain ⟨h1, h2, h3, h4, _⟩ := digR_ok k (n / 10) (by rw [Nat.pow_succ] at h; omega) hk
      refine ⟨fun c hc => ?_, ?_, by simp, fun hn c hc => ?_, fun h0 => by omega⟩
      · rcases List.mem_cons.mp hc with rfl | hc
        · unfold isDig; simp; omega
        · exact h1 c hc
      · rw [List.reverse_cons]
        unfold numOf at *
        rw [List.foldl_append, h2]
        simp; omega
      · have e : ((48 + n % 10) :: digR k (n / 10)).getLast? = (digR k (n / 10)).getLast? := by
          rw [List.getLast?_cons]
          cases hq : (digR k (n / 10)).getLast? with
          | none => rw [List.getLast?_eq_none_iff] at hq; exact (h3 hq).elim
          | some z => rfl
        rw [e] at hc
        exact h4 (by omega) c hc
theorem digR_len : ∀ (k n : Nat) (m : Nat), n < 10 ^ m → 0 < m → (digR k n).length ≤ m
  | 0, n, m, _, _ => by unfold digR; simp
  | k + 1, n, m, h, hm => by
    unfold digR
    split
    · simp; omega
    · rename_i h9
      have hm2 : 2 ≤ m := by
        rcases Nat.lt_or_ge m 2 with q | q
        · have : m = 1 := by omega
          subst this; simp at h; omega
        · exact q
      obtain ⟨j, rfl⟩ : ∃ j, m = j + 1 := ⟨m - 1, by omega⟩
      have := digR_len k (n / 10) j (by rw [Nat.pow_succ] at h; omega) (by omega)
      rw [List.length_cons]; omega
theorem fuel_ok (n : Nat) : n < 10 ^ (n.log2 + 1) := by
  have h : n < 2 ^ (n.log2 + 1) := by
    rcases Nat.eq_zero_or_pos n with rfl | q
    · decide
    · exact (Nat.log2_lt (by omega)).mp (Nat.lt_succ_self _)
  exact Nat.lt_of_lt_of_le h (Nat.pow_le_pow_left (by omega) _)
structure Nt (n : Nat) : Prop where
  dig : ∀ c ∈ natCs n, isDig c = true
  num : numOf (natCs n) = n
  ne : natCs n ≠ []
  hd : ∀ c t, natCs n = c :: t → c = 48 → n = 0 ∧ t = []
theorem natCs_ok (n : Nat) : Nt n := by
  obtain ⟨h1, h2, h3, h4, h5⟩ := digR_ok (n.log2 + 1) n (fuel_ok n) (by omega)
  refine ⟨fun c hc => h1 c (List.mem_reverse.mp hc), h2, by unfold natCs; simpa using h3, fun c t e hc => ?_⟩
  have e2 : (digR (n.log2 + 1) n).getLast? = some c := by
    have : (natCs n).head? = some c := by rw [e]; rfl
    unfold natCs at this
    rwa [List.head?_reverse] at this
  have h0 : n = 0 := by
    rcases Nat.eq_zero_or_pos n with q | q
    · exact q
    · exact (h4 q c e2 hc).elim
  refine ⟨h0, ?_⟩
  unfold natCs at e
  rw [h5 h0] at e
  have e : [48] = c :: t := by simpa using e
  exact (List.cons.inj e).2.symm
theorem natCs_len {n m : Nat} (h : n < 10 ^ m) (hm : 0 < m) : (natCs n).length ≤ m := by
  unfold natCs; rw [List.length_reverse]; exact digR_len _ _ _ h hm
/-- the number that a word writes -/
def numZ (l : List Nat) : Option Int := if l = [] ∨ (l.all isDig) = false ∨ (l.head? = some 48 ∧ l ≠ [48]) then none else some (numOf l : Nat)
theorem numZ_nat (n : Nat) : numZ (natCs n) = some (n : Int) := by
  have N := natCs_ok n
  unfold numZ
  rw [if_neg, N.num]
  rintro (h | h | ⟨h1, h2⟩)
  · exact N.ne h
  · rw [List.all_eq_true.mpr N.dig] at h; cases h
  · cases e : natCs n with
    | nil => exact N.ne e
    | cons c t =>
      rw [e] at h1 h2
      have hc : c = 48 := by simpa using h1
      obtain ⟨_, rfl⟩ := N.hd c t e hc
      exact h2 (by rw [hc])
/-- the RUN that a word writes -/
def runZ (l : List Nat) : Option Int := match l with
  | [] => none
  | c :: t => match numZ t with
    | none => none
    | some n => if n = 0 ∨ (c ≠ 43 ∧ c ≠ 45) then none else some (if c = 43 then n else -n)
def runCs (r : Int) : List Nat := if 0 < r then 43 :: natCs r.natAbs else 45 :: natCs r.natAbs
theorem runZ_run {r : Int} (h : r ≠ 0) : runZ (runCs r) = some r := by
  unfold runCs
  by_cases hr : 0 < r
  · rw [if_pos hr]
    show (match numZ (natCs r.natAbs) with | none => none | some n => if n = 0 ∨ ((43 : Nat) ≠ 43 ∧ (43 : Nat) ≠ 45) then none else some (if (43 : Nat) = 43 then n else -n)) = _
    rw [numZ_nat]
    show (if ((r.natAbs : Nat) : Int) = 0 ∨ ((43 : Nat) ≠ 43 ∧ (43 : Nat) ≠ 45) then none else some (if (43 : Nat) = 43 then ((r.natAbs : Nat) : Int) else -((r.natAbs : Nat) : Int))) = _
    rw [if_neg (by omega), if_pos rfl]; congr 1; omega
  · rw [if_neg hr]
    show (match numZ (natCs r.natAbs) with | none => none | some n => if n = 0 ∨ ((45 : Nat) ≠ 43 ∧ (45 : Nat) ≠ 45) then none else some (if (45 : Nat) = 43 then n else -n)) = _
    rw [numZ_nat]
    show (if ((r.natAbs : Nat) : Int) = 0 ∨ ((45 : Nat) ≠ 43 ∧ (45 : Nat) ≠ 45) then none else some (if (45 : Nat) = 43 then ((r.natAbs : Nat) : Int) else -((r.natAbs : Nat) : Int))) = _
    rw [if_neg (by omega), if_neg (by omega)]; congr 1; omega
theorem runCs_dig (r : Int) : ∀ c ∈ runCs r, c = 43 ∨ c = 45 ∨ isDig c = true := by
  intro c hc
  unfold runCs at hc
  split at hc <;> rcases List.mem_cons.mp hc with rfl | hc
  · exact .inl rfl
  · exact .inr (.inr ((natCs_ok _).dig c hc))
  · exact .inr (.inl rfl)
  · exact .inr (.inr ((natCs_ok _).dig c hc))
theorem runCs_ne (r : Int) : runCs r ≠ [] := by unfold runCs; split <;> simp
theorem runCs_len {r : Int} {m : Nat} (h : r.natAbs < 10 ^ m) (hm : 0 < m) : (runCs r).length ≤ m + 1 := by
  have := natCs_len h hm
  unfold runCs; split <;> (rw [List.length_cons]; omega)
/-! words put together and cut again -/
theorem cut_word (s : Nat) : ∀ (w acc rest : List Nat), (∀ c ∈ w, c ≠ s) → cut s acc (w ++ s :: rest) = (acc.reverse ++ w) :: cut s [] rest
  | [], acc, rest, _ => by
    show (if s = s then acc.reverse :: cut s [] rest else cut s (s :: acc) rest) = _
    rw [if_pos rfl, List.append_nil]
  | c :: w, acc, rest, h => by
    show (if c = s then acc.reverse :: cut s [] (w ++ s :: rest) else cut s (c :: acc) (w ++ s :: rest)) = _
    rw [if_neg (h c (List.mem_cons_self ..)), cut_word s w (c :: acc) rest fun c hc => h c (List.mem_cons_of_mem _ hc), List.reverse_cons, List.append_assoc]; rfl
theorem cut_end (s : Nat) : ∀ (w acc : List Nat), (∀ c ∈ w, c ≠ s) → cut s acc w = [acc.reverse ++ w]
  | [], acc, _ => by show [acc.reverse] = _; rw [List.append_nil]
  | c :: w, acc, h => by
    show (if c = s then acc.reverse :: cut s [] w else cut s (c :: acc) w) = _
    rw [if_neg (h c (List.mem_cons_self ..)), cut_end s w (c :: acc) fun c hc => h c (List.mem_cons_of_mem _ hc), List.reverse_cons, List.append_assoc]; rfl
theorem cut_join (s : Nat) : ∀ (ws : List (List Nat)), ws ≠ [] → (∀ w ∈ ws, ∀ c ∈ w, c ≠ s) → cut s [] (joinL [s] ws) = ws
  | [], h, _ => (h rfl).elim
  | [w], _, h => by
    show cut s [] w = _
    rw [cut_end s w [] (h w (List.mem_cons_self ..))]; rfl
  | w :: v :: ws, _, h => by
    show cut s [] (w ++ ([s] ++ joinL [s] (v :: ws))) = _
    have ih := cut_join s (v :: ws) (by simp) fun w hw => h w (List.mem_cons_of_mem _ hw)
    rw [show w ++ ([s] ++ joinL [s] (v :: ws)) = w ++ s :: joinL [s] (v :: ws) by rfl, cut_word s w [] _ (h w (List.mem_cons_self ..)), ih]; rfl
theorem join_len (s : Nat) (m : Nat) : ∀ (ws : List (List Nat)), (∀ w ∈ ws, w.length ≤ m) → (joinL [s] ws).length ≤ ws.length * (m + 1)
  | [], _ => by simp [joinL]
  | [w], h => by have := h w (List.mem_cons_self ..); simp [joinL]; omega
  | w :: v :: ws, h => by
    have ih := join_len s m (v :: ws) fun w hw => h w (List.mem_cons_of_mem _ hw)
    have := h w (List.mem_cons_self ..)
    show (w ++ ([s] ++ joinL [s] (v :: ws))).length ≤ _
    rw [List.length_append, List.length_append, List.length_cons (a := w), Nat.succ_mul]
    simp only [List.length_singleton]
    omega
end Bt
end
section
set_option linter.all false
set_option maxRecDepth 100000
set_option maxHeartbeats 400000
namespace K03
open PySem Ev Bt
theorem lenOk : sizeLine = 16777216 := rfl
/-! drawn numbers -/
theorem take_ok (n : Nat) {B s : Int} {bx : List D} (hB : B < 2 ^ 50) (hs : 0 < s) (hs2 : divOk s = true) (h : Box B bx) :
    ∃ v bx', call P (n + 1) 4 [.own bx, .val (I s)] = .ret (.val (I v)) [some (.own bx'), none] ∧ 0 ≤ v ∧ v < s ∧ Box (B + 1) bx' := by
  obtain ⟨b0, b1, b2, rfl, h0, h1, h2, h3, h4⟩ := h
  rw [call_eq m__law_take rfl rfl]
  have q1 : mulOk 48271 (b2 + 1) = true := mul_l (by omega) (by omega)
  have q2 : mulOk (b1 + 48271 * (b2 + 1)) (39373 + (b2 + 1)) = true := mul_r (by omega) (by omega)
  have q3 : ∀ a x : Int, mulOk a (x % 40009 + 7) = true := fun a x => mul_r (by omega) (by omega)
  have q4 : ∀ a : Int, mulOk a 48271 = true := fun a => mul_r (by omega) (by omega)
  have d1 : divOk 64 = true := div_ok (by omega) (by decide +kernel)
  have d2 : divOk 1000003 = true := div_ok (by omega) (by decide +kernel)
  have a0 : ∀ x y z : D, atL [x, y, z] 0 = some x := fun _ _ _ => rfl
  have a1 : ∀ x y z : D, atL [x, y, z] 1 = some y := fun _ _ _ => rfl
  have a2 : ∀ x y z : D, atL [x, y, z] 2 = some z := fun _ _ _ => rfl
  have x0 : ixOf 3 0 = some 0 := rfl
  have x2 : ixOf 3 2 = some 2 := rfl
  simp only [m__law_take, a0, a1, a2, x0, x2, hs, hs2, q1, q2, q3, q4, d1, d2, cLenI_ap, lenIK_l, lenIK_t, cSs_eq, cPop_ap, popK0_own, popF_some, popK_ap, sExt_ap, extK0_own, extK2_ap, extD_own, gFld_snap, cFld_eq, cPrp_ap, prpK_ap, noX_ok, cMb_ap, mbK_ap, mbK1_ap, mbK2_ap, rc_ixl, rc_spl, rc_joi, cFst_ap, fK0_ap, evF_nil, evF_cons, fK1_ap, fK2_ap, newK_ret, f_sumt, List.isEmpty_nil, List.isEmpty_cons, not_true_eq_false, not_false_eq_true, r_t, perm_cons, permC_some, List.getElem?_cons_zero, List.getElem?_cons_succ, at_0, at_1, at_2, at_3, at_4, at_last, List.length_map, reduceCtorEq, lcTurn_ap, lcK3_ap, lcK2_ap, lcE_some, evC_none, evC_some, wipe_nil, wipe_cons, rest_nil, rest_cons, fw_next, fw_ret, fw_brk, fw_cont, fw_ite, Nat.reduceAdd, Nat.reduceLeDiff, true_and, and_true, and_self, cRg1_ap, rg1K_f, rg1K_t, cRg2_ap, rg2K_ap, rg2K2_f, rg2K2_t, bind_ok, bind_no, bind_exc, bind_ite, opt_some, opt_none, opt_ite, val_okv, val_oko, val_no, val_exc, val_ite, opn_eq, flow_ok, flow_no, flow_exc, flow_ite, seq_next, seq_ret, seq_brk, seq_cont, seq_exc, seq_no, seq_ite, turn_next, turn_ret, turn_brk, turn_cont, turn_exc, turn_ite, done_next, done_ret, done_exc, done_ite, mask_nil, mask_t, mask_f, orNo_some, orNo_none, getS_z, getS_s, cVar_ap, rdV_val, rdV_own, cMov_ap, rdM_val, rdM_own, dat_val, dat_own, datV_eq, datS_val, datS_own, datR_eq, datSR_val, datSR_own, datSR_rd, cCon_ap, cVal_ap, cValK_ap, c1_ap, c1K_ap, c2_ap, c2K_ap, gO_some, c1V_ap, c2V_ap, c2V0_some, c2VK_ap, c2W_ap, c2WK_ap, bl_some, cBin_eq, cNeg_eq, cNot_eq, cCmp_eq, cIsN_eq, cSub_eq, cSubV_eq, cRev_eq, cRevV_eq, cInV_eq, cIsi_eq, cIsiV_eq, cBiV_ap, cChn_ap, chnKx_ap, chnKy_ap, chnK1_ap, chnK2_ap, cAnd_ap, andK_ap, andK2_ap, cOr_ap, orK_val, orK_own, orK2_ap, cIte_ap, iteK_ap, consK_ap, appK_ap, evs_nil, evs_cons, evsK_ap, evI_nil, evI_one, evIK_ap, evIA_ap, evI_star, evIS_ap, seqO_some, evI_starV, seqD_l, seqD_t, cLst_ap, lstK_ap, cTup_ap, tupK_ap, evO_none, someK_ap, evO_some, evOK_ap, intO_i, cSl_ap, slK1_ap, slK2_ap, slK3_ap, cSlV_ap, slV0_some, slVK1_ap, slVK2_ap, cBi_ap, biK_ap, evA_nil, evA_ref, evA0_some, evA_val, evAK_ap, cCall_ap, callK_ap, callK2_ap, back_ret, back_exc, putBack_nil, putBack_ref, putBack_val, atCall_nil, atCall_ref, consO_some, atC0_some, atCall_val, cCallK_ap, callKK_ap, callKK2_ap, perm_nil, tVal_ap, tvK_ap, tAnd_ap, tAndK_ap, tOr_ap, tOrK_ap, tNot_ap, tNotK_ap, iIt_ap, itK_ap, items_l, items_t, iRng1_ap, r1K_ap, iRng2_ap, r2K1_ap, r2K_ap, iZip_ap, zipK1_ap, zipK_ap, zipD_l, zipD_t, iEnm_ap, enmK_ap, enmD_l, enmD_t, sSeq_ap, keep_tv, keep_to, keep_fv, keep_fo, setF_some, sAsg_ap, asgK_ap, nxF_some, sAsgT_ap, asgTK_ap, bindT_nm, bindT_tt, bindT_tl, bindTs_nil, bndK_some, bindTs_cons, evSs_nil, evSs_cons, evSsK_ap, sPar_ap, parK_ap, setPar_nil, parO_some, setPar_cons, sSetIx_ap, sixK_ap, sixK2_some, sixK3_ap, setDN_some, setD_own, sApp_ap, appK0_own, appK2_ap, appD_own, setF_ite, sExp_ap, expK_ap, sIf_ap, ifK_ap, sFor_ap, forK_ap, sWhile_ap, ftK_some, forTurn_ap, retF_some, sRet_ap, retK_ap, sRetN_ap, sBrk_ap, sCont_ap, sPass_ap, cLc_ap, b_add, b_sub, b_mul, b_fdiv, b_mod, b_pow, b_addL, b_addT, b_mulL, b_mulT, n_neg, q_lt, q_le, q_gt, q_ge, q_eq, q_ne, q_eqb, q_neb, c_lt, c_le, c_gt, c_ge, c_eq, t_b, t_i, t_l, t_t, t_n, g_not, i_n, i_b, i_i, i_s, i_l, i_t, g_isn, g_isnn, gi_n, gi_b, gi_i, gi_s, gi_l, gi_t, f_max, f_min, f_abs, f_int, f_intb, f_lenl, f_lent, f_listl, f_listt, f_tupl, f_tupt, f_sum, f_all, f_any, f_sort, f_sortT, g_atl, g_att, s_l, s_t, r_l, List.set_cons_zero, List.set_cons_succ, List.map_cons, List.map_nil, List.nil_append, List.cons_append, Option.map_some, Option.map_none, decide_eq_true_eq, Bool.not_eq_true', decide_eq_false_iff_not, Bool.false_eq_true, if_true, if_false, ite_self, if_false, rep_z, rep_s, lenOk, List.length_cons, List.length_nil]
  by_cases hb : 0 < b0
  · rw [if_pos hb]
    refine ⟨_, _, rfl, Int.emod_nonneg _ (by omega), Int.emod_lt_of_pos _ hs, b0 / s, b1, b2, rfl, Int.ediv_nonneg h0 (by omega), h1, h2, h3, by omega⟩
  · rw [if_neg hb]
    simp only [show (0 : Int) < 2147483647 by omega, show (0 : Int) < 40009 by omega, show (0 : Int) < 2147483629 by omega, show (0 : Int) < 2147483587 by omega, q1, q2, q3, q4, d1, d2, a0, a1, a2, x0, x2, hs, cLenI_ap, lenIK_l, lenIK_t, cSs_eq, cPop_ap, popK0_own, popF_some, popK_ap, sExt_ap, extK0_own, extK2_ap, extD_own, gFld_snap, cFld_eq, cPrp_ap, prpK_ap, noX_ok, cMb_ap, mbK_ap, mbK1_ap, mbK2_ap, rc_ixl, rc_spl, rc_joi, cFst_ap, fK0_ap, evF_nil, evF_cons, fK1_ap, fK2_ap, newK_ret, f_sumt, List.isEmpty_nil, List.isEmpty_cons, not_true_eq_false, not_false_eq_true, r_t, perm_cons, permC_some, List.getElem?_cons_zero, List.getElem?_cons_succ, at_0, at_1, at_2, at_3, at_4, at_last, List.length_map, reduceCtorEq, lcTurn_ap, lcK3_ap, lcK2_ap, lcE_some, evC_none, evC_some, wipe_nil, wipe_cons, rest_nil, rest_cons, fw_next, fw_ret, fw_brk, fw_cont, fw_ite, Nat.reduceAdd, Nat.reduceLeDiff, true_and, and_true, and_self, cRg1_ap, rg1K_f, rg1K_t, cRg2_ap, rg2K_ap, rg2K2_f, rg2K2_t, bind_ok, bind_no, bind_exc, bind_ite, opt_some, opt_none, opt_ite, val_okv, val_oko, val_no, val_exc, val_ite, opn_eq, flow_ok, flow_no, flow_exc, flow_ite, seq_next, seq_ret, seq_brk, seq_cont, seq_exc, seq_no, seq_ite, turn_next, turn_ret, turn_brk, turn_cont, turn_exc, turn_ite, done_next, done_ret, done_exc, done_ite, mask_nil, mask_t, mask_f, orNo_some, orNo_none, getS_z, getS_s, cVar_ap, rdV_val, rdV_own, cMov_ap, rdM_val, rdM_own, dat_val, dat_own, datV_eq, datS_val, datS_own, datR_eq, datSR_val, datSR_own, datSR_rd, cCon_ap, cVal_ap, cValK_ap, c1_ap, c1K_ap, c2_ap, c2K_ap, gO_some, c1V_ap, c2V_ap, c2V0_some, c2VK_ap, c2W_ap, c2WK_ap, bl_some, cBin_eq, cNeg_eq, cNot_eq, cCmp_eq, cIsN_eq, cSub_eq, cSubV_eq, cRev_eq, cRevV_eq, cInV_eq, cIsi_eq, cIsiV_eq, cBiV_ap, cChn_ap, chnKx_ap, chnKy_ap, chnK1_ap, chnK2_ap, cAnd_ap, andK_ap, andK2_ap, cOr_ap, orK_val, orK_own, orK2_ap, cIte_ap, iteK_ap, consK_ap, appK_ap, evs_nil, evs_cons, evsK_ap, evI_nil, evI_one, evIK_ap, evIA_ap, evI_star, evIS_ap, seqO_some, evI_starV, seqD_l, seqD_t, cLst_ap, lstK_ap, cTup_ap, tupK_ap, evO_none, someK_ap, evO_some, evOK_ap, intO_i, cSl_ap, slK1_ap, slK2_ap, slK3_ap, cSlV_ap, slV0_some, slVK1_ap, slVK2_ap, cBi_ap, biK_ap, evA_nil, evA_ref, evA0_some, evA_val, evAK_ap, cCall_ap, callK_ap, callK2_ap, back_ret, back_exc, putBack_nil, putBack_ref, putBack_val, atCall_nil, atCall_ref, consO_some, atC0_some, atCall_val, cCallK_ap, callKK_ap, callKK2_ap, perm_nil, tVal_ap, tvK_ap, tAnd_ap, tAndK_ap, tOr_ap, tOrK_ap, tNot_ap, tNotK_ap, iIt_ap, itK_ap, items_l, items_t, iRng1_ap, r1K_ap, iRng2_ap, r2K1_ap, r2K_ap, iZip_ap, zipK1_ap, zipK_ap, zipD_l, zipD_t, iEnm_ap, enmK_ap, enmD_l, enmD_t, sSeq_ap, keep_tv, keep_to, keep_fv, keep_fo, setF_some, sAsg_ap, asgK_ap, nxF_some, sAsgT_ap, asgTK_ap, bindT_nm, bindT_tt, bindT_tl, bindTs_nil, bndK_some, bindTs_cons, evSs_nil, evSs_cons, evSsK_ap, sPar_ap, parK_ap, setPar_nil, parO_some, setPar_cons, sSetIx_ap, sixK_ap, sixK2_some, sixK3_ap, setDN_some, setD_own, sApp_ap, appK0_own, appK2_ap, appD_own, setF_ite, sExp_ap, expK_ap, sIf_ap, ifK_ap, sFor_ap, forK_ap, sWhile_ap, ftK_some, forTurn_ap, retF_some, sRet_ap, retK_ap, sRetN_ap, sBrk_ap, sCont_ap, sPass_ap, cLc_ap, b_add, b_sub, b_mul, b_fdiv, b_mod, b_pow, b_addL, b_addT, b_mulL, b_mulT, n_neg, q_lt, q_le, q_gt, q_ge, q_eq, q_ne, q_eqb, q_neb, c_lt, c_le, c_gt, c_ge, c_eq, t_b, t_i, t_l, t_t, t_n, g_not, i_n, i_b, i_i, i_s, i_l, i_t, g_isn, g_isnn, gi_n, gi_b, gi_i, gi_s, gi_l, gi_t, f_max, f_min, f_abs, f_int, f_intb, f_lenl, f_lent, f_listl, f_listt, f_tupl, f_tupt, f_sum, f_all, f_any, f_sort, f_sortT, g_atl, g_att, s_l, s_t, r_l, List.set_cons_zero, List.set_cons_succ, List.map_cons, List.map_nil, List.nil_append, List.cons_append, Option.map_some, Option.map_none, decide_eq_true_eq, Bool.not_eq_true', decide_eq_false_iff_not, Bool.false_eq_true, if_true, if_false, ite_self, if_false, rep_z, rep_s, lenOk, List.length_cons, List.length_nil]
    refine ⟨_, _, rfl, Int.emod_nonneg _ (by omega), Int.emod_lt_of_pos _ hs, b0, b1, b2 + 1, rfl, h0, h1, h2, by omega, by omega⟩
theorem of_ok (n : Nat) {B : Int} {bx : List D} (hB : B < 2 ^ 50) (xs : List D) (hx : xs ≠ []) (hl : xs.length ≤ 16777216) (h : Box B bx) (s : Slot) (hs : s = .own xs ∨ s = .val (.list xs) ∨ s = .val (.tuple xs)) :
    ∃ d bx', call P (n + 2) 6 [.own bx, s] = .ret (.val d) [some (.own bx'), none] ∧ d ∈ xs ∧ Box (B + 1) bx' := by
  have hp : 0 < xs.length := List.length_pos_iff.mpr hx
  obtain ⟨v, bx', ht, h1, h2, h3⟩ := take_ok n hB (s := xs.length) (by omega) (div_ok (by omega) (Int.lt_of_le_of_lt (show (xs.length : Int) ≤ 16777216 by omega) (by decide +kernel))) h
  have hv : v.toNat < xs.length := by omega
  have hat : atL xs v = some xs[v.toNat] := by
    unfold atL ixOf
    rw [if_pos h1, if_pos h2]
    exact List.getElem?_eq_getElem hv
  refine ⟨xs[v.toNat], bx', ?_, List.getElem_mem hv, h3⟩
  rw [call_eq m__law_of rfl rfl]
  rcases hs with rfl | rfl | rfl <;> simp only [m__law_of, ht, hat, cLenI_ap, lenIK_l, lenIK_t, cSs_eq, cPop_ap, popK0_own, popF_some, popK_ap, sExt_ap, extK0_own, extK2_ap, extD_own, gFld_snap, cFld_eq, cPrp_ap, prpK_ap, noX_ok, cMb_ap, mbK_ap, mbK1_ap, mbK2_ap, rc_ixl, rc_spl, rc_joi, cFst_ap, fK0_ap, evF_nil, evF_cons, fK1_ap, fK2_ap, newK_ret, f_sumt, List.isEmpty_nil, List.isEmpty_cons, not_true_eq_false, not_false_eq_true, r_t, perm_cons, permC_some, List.getElem?_cons_zero, List.getElem?_cons_succ, at_0, at_1, at_2, at_3, at_4, at_last, List.length_map, reduceCtorEq, lcTurn_ap, lcK3_ap, lcK2_ap, lcE_some, evC_none, evC_some, wipe_nil, wipe_cons, rest_nil, rest_cons, fw_next, fw_ret, fw_brk, fw_cont, fw_ite, Nat.reduceAdd, Nat.reduceLeDiff, true_and, and_true, and_self, cRg1_ap, rg1K_f, rg1K_t, cRg2_ap, rg2K_ap, rg2K2_f, rg2K2_t, bind_ok, bind_no, bind_exc, bind_ite, opt_some, opt_none, opt_ite, val_okv, val_oko, val_no, val_exc, val_ite, opn_eq, flow_ok, flow_no, flow_exc, flow_ite, seq_next, seq_ret, seq_brk, seq_cont, seq_exc, seq_no, seq_ite, turn_next, turn_ret, turn_brk, turn_cont, turn_exc, turn_ite, done_next, done_ret, done_exc, done_ite, mask_nil, mask_t, mask_f, orNo_some, orNo_none, getS_z, getS_s, cVar_ap, rdV_val, rdV_own, cMov_ap, rdM_val, rdM_own, dat_val, dat_own, datV_eq, datS_val, datS_own, datR_eq, datSR_val, datSR_own, datSR_rd, cCon_ap, cVal_ap, cValK_ap, c1_ap, c1K_ap, c2_ap, c2K_ap, gO_some, c1V_ap, c2V_ap, c2V0_some, c2VK_ap, c2W_ap, c2WK_ap, bl_some, cBin_eq, cNeg_eq, cNot_eq, cCmp_eq, cIsN_eq, cSub_eq, cSubV_eq, cRev_eq, cRevV_eq, cInV_eq, cIsi_eq, cIsiV_eq, cBiV_ap, cChn_ap, chnKx_ap, chnKy_ap, chnK1_ap, chnK2_ap, cAnd_ap, andK_ap, andK2_ap, cOr_ap, orK_val, orK_own, orK2_ap, cIte_ap, iteK_ap, consK_ap, appK_ap, evs_nil, evs_cons, evsK_ap, evI_nil, evI_one, evIK_ap, evIA_ap, evI_star, evIS_ap, seqO_some, evI_starV, seqD_l, seqD_t, cLst_ap, lstK_ap, cTup_ap, tupK_ap, evO_none, someK_ap, evO_some, evOK_ap, intO_i, cSl_ap, slK1_ap, slK2_ap, slK3_ap, cSlV_ap, slV0_some, slVK1_ap, slVK2_ap, cBi_ap, biK_ap, evA_nil, evA_ref, evA0_some, evA_val, evAK_ap, cCall_ap, callK_ap, callK2_ap, back_ret, back_exc, putBack_nil, putBack_ref, putBack_val, atCall_nil, atCall_ref, consO_some, atC0_some, atCall_val, cCallK_ap, callKK_ap, callKK2_ap, perm_nil, tVal_ap, tvK_ap, tAnd_ap, tAndK_ap, tOr_ap, tOrK_ap, tNot_ap, tNotK_ap, iIt_ap, itK_ap, items_l, items_t, iRng1_ap, r1K_ap, iRng2_ap, r2K1_ap, r2K_ap, iZip_ap, zipK1_ap, zipK_ap, zipD_l, zipD_t, iEnm_ap, enmK_ap, enmD_l, enmD_t, sSeq_ap, keep_tv, keep_to, keep_fv, keep_fo, setF_some, sAsg_ap, asgK_ap, nxF_some, sAsgT_ap, asgTK_ap, bindT_nm, bindT_tt, bindT_tl, bindTs_nil, bndK_some, bindTs_cons, evSs_nil, evSs_cons, evSsK_ap, sPar_ap, parK_ap, setPar_nil, parO_some, setPar_cons, sSetIx_ap, sixK_ap, sixK2_some, sixK3_ap, setDN_some, setD_own, sApp_ap, appK0_own, appK2_ap, appD_own, setF_ite, sExp_ap, expK_ap, sIf_ap, ifK_ap, sFor_ap, forK_ap, sWhile_ap, ftK_some, forTurn_ap, retF_some, sRet_ap, retK_ap, sRetN_ap, sBrk_ap, sCont_ap, sPass_ap, cLc_ap, b_add, b_sub, b_mul, b_fdiv, b_mod, b_pow, b_addL, b_addT, b_mulL, b_mulT, n_neg, q_lt, q_le, q_gt, q_ge, q_eq, q_ne, q_eqb, q_neb, c_lt, c_le, c_gt, c_ge, c_eq, t_b, t_i, t_l, t_t, t_n, g_not, i_n, i_b, i_i, i_s, i_l, i_t, g_isn, g_isnn, gi_n, gi_b, gi_i, gi_s, gi_l, gi_t, f_max, f_min, f_abs, f_int, f_intb, f_lenl, f_lent, f_listl, f_listt, f_tupl, f_tupt, f_sum, f_all, f_any, f_sort, f_sortT, g_atl, g_att, s_l, s_t, r_l, List.set_cons_zero, List.set_cons_succ, List.map_cons, List.map_nil, List.nil_append, List.cons_append, Option.map_some, Option.map_none, decide_eq_true_eq, Bool.not_eq_true', decide_eq_false_iff_not, Bool.false_eq_true, if_true, if_false, ite_self, if_false, rep_z, rep_s, lenOk, List.length_cons, List.length_nil]
theorem enm_len : ∀ (k : Nat) (xs : List D), (enmL k xs).length = xs.length
  | _, [] => rfl
  | k, x :: xs => by show (enmL (k + 1) xs).length + 1 = _; rw [enm_len]; rfl
theorem enm_get : ∀ (k : Nat) (xs : List D) (i : Nat), (enmL k xs)[i]? = (xs[i]?).map fun x => .tuple [.int ((k + i : Nat) : Int), x]
  | _, [], _ => rfl
  | k, x :: xs, 0 => rfl
  | k, x :: xs, i + 1 => by
    show (enmL (k + 1) xs)[i]? = _
    rw [enm_get (k + 1) xs i, show k + 1 + i = k + (i + 1) by omega]; rfl
theorem set_ints (l : List Int) (i : Nat) (v : Int) : (l.map PyData.int).set i (.int v) = (l.set i v).map PyData.int := by rw [List.map_set]
theorem atL_map (l : List Int) (i : Int) (h : 0 ≤ i) (h2 : i < l.length) : atL (l.map PyData.int) i = some (.int (l.getD i.toNat 0)) := by
  rw [atL_nn h (by rw [List.length_map]; exact h2), List.getElem_map, List.getD_eq_getElem?_getD, List.getElem?_eq_getElem (by omega)]; rfl
/-- the first numbers of the script, with the later ones added: some numbers, one at least -/
theorem cells_ok (n : Nat) (ns : List Int) (hn : ns.length ≤ 63) (top : Nat) (ht : 0 < top) (ht2 : top ≤ 63) :
    ∃ l : List Int, CRw (call P (n + 1) 5 [.rd (ns.map .int), .val (I top)]) (fun s ps => s = .own (l.map .int) ∧ ps = [some (.rd (ns.map .int)), none]) ∧ l.length ≤ top ∧ 0 < l.length := by
  have c0 : cutD (ns.map PyData.int) none (some (top : Int)) = (ns.take top).map .int := by
    rw [cut_map, cut_to (by omega), Int.toNat_natCast]
  have c1 : ∃ m : List Int, cutD (ns.map PyData.int) (some (top : Int)) (some 63) = m.map .int ∧ m.length ≤ 63 ∧ (top ≤ ns.length ∨ m = []) := by
    refine ⟨_, cut_map _ _ _ _, ?_, ?_⟩
    · rw [cut_ft (by omega) (by omega), List.length_take]; omega
    · by_cases h : top ≤ ns.length
      · exact .inl h
      · right
        rw [cut_ft (by omega) (by omega), List.drop_eq_nil_of_le (by omega), List.take_nil]
  obtain ⟨m, c1, hm, hm2⟩ := c1
  have key : ∀ l0 : List Int, l0.length ≤ top → 0 < l0.length → (m = [] ∨ l0.length = top) → ∃ l : List Int, l.length = l0.length ∧
      ∀ (C : Ev.Ctx) (k : Ev.Env → F) (Z : Zs), (∀ o1 o2 o3, Fw (k [some (.rd (ns.map .int)), some (.val (I top)), some (.own (l.map .int)), o1, o2, o3]) Z) →
      Fw (F.seq (forL (forTurn C (.tp [(.nm 3), (.nm 4)]) (sSeq (sAsg 5 (c2 (gBin .mod) (cBi .int [(cVar 3)]) (cVar 1)) false) (sSeq (sSetIx 2 (cVar 5) (c2 (gBin .add) (c2V gAt 2 (cVar 5)) (c2 (gBin .mul) (cVar 4) (c2 (gBin .add) (cVar 3) (cCon (.int 2)))))) sPass))) (enmL 0 (m.map .int)) [some (.rd (ns.map .int)), some (.val (I top)), some (.own (l0.map .int)), none, none, none]) k) Z := by
    intro l0 h1 h2 h3
    refine ⟨(List.range m.length).foldl (fun l i => l.set (i % top) (l.getD (i % top) 0 + m.getD i 0 * ((i : Int) + 2))) l0, ?_, ?_⟩
    · generalize List.range m.length = r
      clear h3 h2 h1
      induction r generalizing l0 with
      | nil => rfl
      | cons i r ih => rw [List.foldl_cons, ih, List.length_set]
    · intro C k Z hk
      have hlen : ∀ (i : Nat), ((List.range i).foldl (fun l i => l.set (i % top) (l.getD (i % top) 0 + m.getD i 0 * ((i : Int) + 2))) l0).length = l0.length := by
        intro i
        generalize List.range i = r
        clear hk h3 h2 h1
        induction r generalizing l0 with
        | nil => rfl
        | cons i r ih => rw [List.foldl_cons, ih, List.length_set]
      refine for_fw (fun i e => ∃ o1 o2 o3, e = [some (.rd (ns.map .int)), some (.val (I top)), some (.own (((List.range i).foldl (fun l i => l.set (i % top) (l.getD (i % top) 0 + m.getD i 0 * ((i : Int) + 2))) l0).map .int)), o1, o2, o3]) ⟨none, none, none, rfl⟩ ?_ ?_
      · intro i x e hx he
        obtain ⟨o1, o2, o3, rfl⟩ := he
        rw [enm_get, List.getElem?_map] at hx
        cases hmi : m[i]? with
        | none => rw [hmi] at hx; cases hx
        | some y =>
          rw [hmi] at hx
          cases hx
          have hi : i < m.length := (List.getElem?_eq_some_iff.mp hmi).1
          have hl : l0.length = top := h3.elim (fun q => by rw [q] at hi; cases hi) id
          have hmg : m.getD i 0 = y := by rw [List.getD_eq_getElem?_getD, hmi]; rfl
          have hL := hlen i
          generalize hg : (List.range i).foldl (fun l i => l.set (i % top) (l.getD (i % top) 0 + m.getD i 0 * ((i : Int) + 2))) l0 = L at hL ⊢
          have e1 : (0 : Int) < (top : Int) := by omega
          have em : (((0 + i : Nat) : Int) % (top : Int)) = ((i % top : Nat) : Int) := by rw [Nat.zero_add]; rfl
          have hlt : i % top < top := Nat.mod_lt _ ht
          have e2 : atL (L.map PyData.int) ((i % top : Nat) : Int) = some (.int (L.getD (i % top) 0)) := by
            rw [atL_map L _ (by omega) (by omega), Int.toNat_natCast]
          have e3 : mulOk y (((0 + i : Nat) : Int) + 2) = true := mul_r (by omega) (by omega)
          have e4 : ixOf L.length ((i % top : Nat) : Int) = some (i % top) := by
            unfold ixOf
            rw [if_pos (by omega), if_pos (by omega), Int.toNat_natCast]
          simp only [e1, e2, e3, e4, em, List.length_map, cLenI_ap, lenIK_l, lenIK_t, cSs_eq, cPop_ap, popK0_own, popF_some, popK_ap, sExt_ap, extK0_own, extK2_ap, extD_own, gFld_snap, cFld_eq, cPrp_ap, prpK_ap, noX_ok, cMb_ap, mbK_ap, mbK1_ap, mbK2_ap, rc_ixl, rc_spl, rc_joi, cFst_ap, fK0_ap, evF_nil, evF_cons, fK1_ap, fK2_ap, newK_ret, f_sumt, List.isEmpty_nil, List.isEmpty_cons, not_true_eq_false, not_false_eq_true, r_t, perm_cons, permC_some, List.getElem?_cons_zero, List.getElem?_cons_succ, at_0, at_1, at_2, at_3, at_4, at_last, List.length_map, reduceCtorEq, lcTurn_ap, lcK3_ap, lcK2_ap, lcE_some, evC_none, evC_some, wipe_nil, wipe_cons, rest_nil, rest_cons, fw_next, fw_ret, fw_brk, fw_cont, fw_ite, Nat.reduceAdd, Nat.reduceLeDiff, true_and, and_true, and_self, cRg1_ap, rg1K_f, rg1K_t, cRg2_ap, rg2K_ap, rg2K2_f, rg2K2_t, bind_ok, bind_no, bind_exc, bind_ite, opt_some, opt_none, opt_ite, val_okv, val_oko, val_no, val_exc, val_ite, opn_eq, flow_ok, flow_no, flow_exc, flow_ite, seq_next, seq_ret, seq_brk, seq_cont, seq_exc, seq_no, seq_ite, turn_next, turn_ret, turn_brk, turn_cont, turn_exc, turn_ite, done_next, done_ret, done_exc, done_ite, mask_nil, mask_t, mask_f, orNo_some, orNo_none, getS_z, getS_s, cVar_ap, rdV_val, rdV_own, cMov_ap, rdM_val, rdM_own, dat_val, dat_own, datV_eq, datS_val, datS_own, datR_eq, datSR_val, datSR_own, datSR_rd, cCon_ap, cVal_ap, cValK_ap, c1_ap, c1K_ap, c2_ap, c2K_ap, gO_some, c1V_ap, c2V_ap, c2V0_some, c2VK_ap, c2W_ap, c2WK_ap, bl_some, cBin_eq, cNeg_eq, cNot_eq, cCmp_eq, cIsN_eq, cSub_eq, cSubV_eq, cRev_eq, cRevV_eq, cInV_eq, cIsi_eq, cIsiV_eq, cBiV_ap, cChn_ap, chnKx_ap, chnKy_ap, chnK1_ap, chnK2_ap, cAnd_ap, andK_ap, andK2_ap, cOr_ap, orK_val, orK_own, orK2_ap, cIte_ap, iteK_ap, consK_ap, appK_ap, evs_nil, evs_cons, evsK_ap, evI_nil, evI_one, evIK_ap, evIA_ap, evI_star, evIS_ap, seqO_some, evI_starV, seqD_l, seqD_t, cLst_ap, lstK_ap, cTup_ap, tupK_ap, evO_none, someK_ap, evO_some, evOK_ap, intO_i, cSl_ap, slK1_ap, slK2_ap, slK3_ap, cSlV_ap, slV0_some, slVK1_ap, slVK2_ap, cBi_ap, biK_ap, evA_nil, evA_ref, evA0_some, evA_val, evAK_ap, cCall_ap, callK_ap, callK2_ap, back_ret, back_exc, putBack_nil, putBack_ref, putBack_val, atCall_nil, atCall_ref, consO_some, atC0_some, atCall_val, cCallK_ap, callKK_ap, callKK2_ap, perm_nil, tVal_ap, tvK_ap, tAnd_ap, tAndK_ap, tOr_ap, tOrK_ap, tNot_ap, tNotK_ap, iIt_ap, itK_ap, items_l, items_t, iRng1_ap, r1K_ap, iRng2_ap, r2K1_ap, r2K_ap, iZip_ap, zipK1_ap, zipK_ap, zipD_l, zipD_t, iEnm_ap, enmK_ap, enmD_l, enmD_t, sSeq_ap, keep_tv, keep_to, keep_fv, keep_fo, setF_some, sAsg_ap, asgK_ap, nxF_some, sAsgT_ap, asgTK_ap, bindT_nm, bindT_tt, bindT_tl, bindTs_nil, bndK_some, bindTs_cons, evSs_nil, evSs_cons, evSsK_ap, sPar_ap, parK_ap, setPar_nil, parO_some, setPar_cons, sSetIx_ap, sixK_ap, sixK2_some, sixK3_ap, setDN_some, setD_own, sApp_ap, appK0_own, appK2_ap, appD_own, setF_ite, sExp_ap, expK_ap, sIf_ap, ifK_ap, sFor_ap, forK_ap, sWhile_ap, ftK_some, forTurn_ap, retF_some, sRet_ap, retK_ap, sRetN_ap, sBrk_ap, sCont_ap, sPass_ap, cLc_ap, b_add, b_sub, b_mul, b_fdiv, b_mod, b_pow, b_addL, b_addT, b_mulL, b_mulT, n_neg, q_lt, q_le, q_gt, q_ge, q_eq, q_ne, q_eqb, q_neb, c_lt, c_le, c_gt, c_ge, c_eq, t_b, t_i, t_l, t_t, t_n, g_not, i_n, i_b, i_i, i_s, i_l, i_t, g_isn, g_isnn, gi_n, gi_b, gi_i, gi_s, gi_l, gi_t, f_max, f_min, f_abs, f_int, f_intb, f_lenl, f_lent, f_listl, f_listt, f_tupl, f_tupt, f_sum, f_all, f_any, f_sort, f_sortT, g_atl, g_att, s_l, s_t, r_l, List.set_cons_zero, List.set_cons_succ, List.map_cons, List.map_nil, List.nil_append, List.cons_append, Option.map_some, Option.map_none, decide_eq_true_eq, Bool.not_eq_true', decide_eq_false_iff_not, Bool.false_eq_true, if_true, if_false, ite_self, if_false, rep_z, rep_s, lenOk, List.length_cons, List.length_nil]
          rw [List.range_succ, List.foldl_append, hg]
          simp only [List.foldl_cons, List.foldl_nil, hmg, set_ints, Nat.zero_add]
          exact ⟨_, _, _, rfl⟩
      · intro e he
        obtain ⟨o1, o2, o3, rfl⟩ := he
        rw [enm_len, List.length_map]
        exact hk o1 o2 o3
  have hr : ns.length = 0 ∨ 0 < (ns.take top).length := by rw [List.length_take]; omega
  rcases hr with h0 | hp
  · have hm0 : m = [] := hm2.elim (fun q => by omega) id
    have hns : ns = [] := List.eq_nil_of_length_eq_zero h0
    subst hns
    obtain ⟨l, hl1, hl2⟩ := key [0] (by show 1 ≤ top; omega) (by decide) (.inl hm0)
    refine ⟨l, ?_, by rw [hl1]; show 1 ≤ top; omega, by rw [hl1]; decide⟩
    refine call_fw m__law_cells rfl rfl ?_
    simp only [List.map_nil, List.take_nil] at c0 c1
    simp only [m__law_cells, c0, c1, List.take_nil, List.isEmpty_nil, Bool.not_true, cLenI_ap, lenIK_l, lenIK_t, cSs_eq, cPop_ap, popK0_own, popF_some, popK_ap, sExt_ap, extK0_own, extK2_ap, extD_own, gFld_snap, cFld_eq, cPrp_ap, prpK_ap, noX_ok, cMb_ap, mbK_ap, mbK1_ap, mbK2_ap, rc_ixl, rc_spl, rc_joi, cFst_ap, fK0_ap, evF_nil, evF_cons, fK1_ap, fK2_ap, newK_ret, f_sumt, List.isEmpty_nil, List.isEmpty_cons, not_true_eq_false, not_false_eq_true, r_t, perm_cons, permC_some, List.getElem?_cons_zero, List.getElem?_cons_succ, at_0, at_1, at_2, at_3, at_4, at_last, List.length_map, reduceCtorEq, lcTurn_ap, lcK3_ap, lcK2_ap, lcE_some, evC_none, evC_some, wipe_nil, wipe_cons, rest_nil, rest_cons, fw_next, fw_ret, fw_brk, fw_cont, fw_ite, Nat.reduceAdd, Nat.reduceLeDiff, true_and, and_true, and_self, cRg1_ap, rg1K_f, rg1K_t, cRg2_ap, rg2K_ap, rg2K2_f, rg2K2_t, bind_ok, bind_no, bind_exc, bind_ite, opt_some, opt_none, opt_ite, val_okv, val_oko, val_no, val_exc, val_ite, opn_eq, flow_ok, flow_no, flow_exc, flow_ite, seq_next, seq_ret, seq_brk, seq_cont, seq_exc, seq_no, seq_ite, turn_next, turn_ret, turn_brk, turn_cont, turn_exc, turn_ite, done_next, done_ret, done_exc, done_ite, mask_nil, mask_t, mask_f, orNo_some, orNo_none, getS_z, getS_s, cVar_ap, rdV_val, rdV_own, cMov_ap, rdM_val, rdM_own, dat_val, dat_own, datV_eq, datS_val, datS_own, datR_eq, datSR_val, datSR_own, datSR_rd, cCon_ap, cVal_ap, cValK_ap, c1_ap, c1K_ap, c2_ap, c2K_ap, gO_some, c1V_ap, c2V_ap, c2V0_some, c2VK_ap, c2W_ap, c2WK_ap, bl_some, cBin_eq, cNeg_eq, cNot_eq, cCmp_eq, cIsN_eq, cSub_eq, cSubV_eq, cRev_eq, cRevV_eq, cInV_eq, cIsi_eq, cIsiV_eq, cBiV_ap, cChn_ap, chnKx_ap, chnKy_ap, chnK1_ap, chnK2_ap, cAnd_ap, andK_ap, andK2_ap, cOr_ap, orK_val, orK_own, orK2_ap, cIte_ap, iteK_ap, consK_ap, appK_ap, evs_nil, evs_cons, evsK_ap, evI_nil, evI_one, evIK_ap, evIA_ap, evI_star, evIS_ap, seqO_some, evI_starV, seqD_l, seqD_t, cLst_ap, lstK_ap, cTup_ap, tupK_ap, evO_none, someK_ap, evO_some, evOK_ap, intO_i, cSl_ap, slK1_ap, slK2_ap, slK3_ap, cSlV_ap, slV0_some, slVK1_ap, slVK2_ap, cBi_ap, biK_ap, evA_nil, evA_ref, evA0_some, evA_val, evAK_ap, cCall_ap, callK_ap, callK2_ap, back_ret, back_exc, putBack_nil, putBack_ref, putBack_val, atCall_nil, atCall_ref, consO_some, atC0_some, atCall_val, cCallK_ap, callKK_ap, callKK2_ap, perm_nil, tVal_ap, tvK_ap, tAnd_ap, tAndK_ap, tOr_ap, tOrK_ap, tNot_ap, tNotK_ap, iIt_ap, itK_ap, items_l, items_t, iRng1_ap, r1K_ap, iRng2_ap, r2K1_ap, r2K_ap, iZip_ap, zipK1_ap, zipK_ap, zipD_l, zipD_t, iEnm_ap, enmK_ap, enmD_l, enmD_t, sSeq_ap, keep_tv, keep_to, keep_fv, keep_fo, setF_some, sAsg_ap, asgK_ap, nxF_some, sAsgT_ap, asgTK_ap, bindT_nm, bindT_tt, bindT_tl, bindTs_nil, bndK_some, bindTs_cons, evSs_nil, evSs_cons, evSsK_ap, sPar_ap, parK_ap, setPar_nil, parO_some, setPar_cons, sSetIx_ap, sixK_ap, sixK2_some, sixK3_ap, setDN_some, setD_own, sApp_ap, appK0_own, appK2_ap, appD_own, setF_ite, sExp_ap, expK_ap, sIf_ap, ifK_ap, sFor_ap, forK_ap, sWhile_ap, ftK_some, forTurn_ap, retF_some, sRet_ap, retK_ap, sRetN_ap, sBrk_ap, sCont_ap, sPass_ap, cLc_ap, b_add, b_sub, b_mul, b_fdiv, b_mod, b_pow, b_addL, b_addT, b_mulL, b_mulT, n_neg, q_lt, q_le, q_gt, q_ge, q_eq, q_ne, q_eqb, q_neb, c_lt, c_le, c_gt, c_ge, c_eq, t_b, t_i, t_l, t_t, t_n, g_not, i_n, i_b, i_i, i_s, i_l, i_t, g_isn, g_isnn, gi_n, gi_b, gi_i, gi_s, gi_l, gi_t, f_max, f_min, f_abs, f_int, f_intb, f_lenl, f_lent, f_listl, f_listt, f_tupl, f_tupt, f_sum, f_all, f_any, f_sort, f_sortT, g_atl, g_att, s_l, s_t, r_l, List.set_cons_zero, List.set_cons_succ, List.map_cons, List.map_nil, List.nil_append, List.cons_append, Option.map_some, Option.map_none, decide_eq_true_eq, Bool.not_eq_true', decide_eq_false_iff_not, Bool.false_eq_true, if_true, if_false, ite_self, if_false, rep_z, rep_s, lenOk, List.length_cons, List.length_nil]
    refine hl2 _ _ _ fun o1 o2 o3 => ?_
    simp only [cLenI_ap, lenIK_l, lenIK_t, cSs_eq, cPop_ap, popK0_own, popF_some, popK_ap, sExt_ap, extK0_own, extK2_ap, extD_own, gFld_snap, cFld_eq, cPrp_ap, prpK_ap, noX_ok, cMb_ap, mbK_ap, mbK1_ap, mbK2_ap, rc_ixl, rc_spl, rc_joi, cFst_ap, fK0_ap, evF_nil, evF_cons, fK1_ap, fK2_ap, newK_ret, f_sumt, List.isEmpty_nil, List.isEmpty_cons, not_true_eq_false, not_false_eq_true, r_t, perm_cons, permC_some, List.getElem?_cons_zero, List.getElem?_cons_succ, at_0, at_1, at_2, at_3, at_4, at_last, List.length_map, reduceCtorEq, lcTurn_ap, lcK3_ap, lcK2_ap, lcE_some, evC_none, evC_some, wipe_nil, wipe_cons, rest_nil, rest_cons, fw_next, fw_ret, fw_brk, fw_cont, fw_ite, Nat.reduceAdd, Nat.reduceLeDiff, true_and, and_true, and_self, cRg1_ap, rg1K_f, rg1K_t, cRg2_ap, rg2K_ap, rg2K2_f, rg2K2_t, bind_ok, bind_no, bind_exc, bind_ite, opt_some, opt_none, opt_ite, val_okv, val_oko, val_no, val_exc, val_ite, opn_eq, flow_ok, flow_no, flow_exc, flow_ite, seq_next, seq_ret, seq_brk, seq_cont, seq_exc, seq_no, seq_ite, turn_next, turn_ret, turn_brk, turn_cont, turn_exc, turn_ite, done_next, done_ret, done_exc, done_ite, mask_nil, mask_t, mask_f, orNo_some, orNo_none, getS_z, getS_s, cVar_ap, rdV_val, rdV_own, cMov_ap, rdM_val, rdM_own, dat_val, dat_own, datV_eq, datS_val, datS_own, datR_eq, datSR_val, datSR_own, datSR_rd, cCon_ap, cVal_ap, cValK_ap, c1_ap, c1K_ap, c2_ap, c2K_ap, gO_some, c1V_ap, c2V_ap, c2V0_some, c2VK_ap, c2W_ap, c2WK_ap, bl_some, cBin_eq, cNeg_eq, cNot_eq, cCmp_eq, cIsN_eq, cSub_eq, cSubV_eq, cRev_eq, cRevV_eq, cInV_eq, cIsi_eq, cIsiV_eq, cBiV_ap, cChn_ap, chnKx_ap, chnKy_ap, chnK1_ap, chnK2_ap, cAnd_ap, andK_ap, andK2_ap, cOr_ap, orK_val, orK_own, orK2_ap, cIte_ap, iteK_ap, consK_ap, appK_ap, evs_nil, evs_cons, evsK_ap, evI_nil, evI_one, evIK_ap, evIA_ap, evI_star, evIS_ap, seqO_some, evI_starV, seqD_l, seqD_t, cLst_ap, lstK_ap, cTup_ap, tupK_ap, evO_none, someK_ap, evO_some, evOK_ap, intO_i, cSl_ap, slK1_ap, slK2_ap, slK3_ap, cSlV_ap, slV0_some, slVK1_ap, slVK2_ap, cBi_ap, biK_ap, evA_nil, evA_ref, evA0_some, evA_val, evAK_ap, cCall_ap, callK_ap, callK2_ap, back_ret, back_exc, putBack_nil, putBack_ref, putBack_val, atCall_nil, atCall_ref, consO_some, atC0_some, atCall_val, cCallK_ap, callKK_ap, callKK2_ap, perm_nil, tVal_ap, tvK_ap, tAnd_ap, tAndK_ap, tOr_ap, tOrK_ap, tNot_ap, tNotK_ap, iIt_ap, itK_ap, items_l, items_t, iRng1_ap, r1K_ap, iRng2_ap, r2K1_ap, r2K_ap, iZip_ap, zipK1_ap, zipK_ap, zipD_l, zipD_t, iEnm_ap, enmK_ap, enmD_l, enmD_t, sSeq_ap, keep_tv, keep_to, keep_fv, keep_fo, setF_some, sAsg_ap, asgK_ap, nxF_some, sAsgT_ap, asgTK_ap, bindT_nm, bindT_tt, bindT_tl, bindTs_nil, bndK_some, bindTs_cons, evSs_nil, evSs_cons, evSsK_ap, sPar_ap, parK_ap, setPar_nil, parO_some, setPar_cons, sSetIx_ap, sixK_ap, sixK2_some, sixK3_ap, setDN_some, setD_own, sApp_ap, appK0_own, appK2_ap, appD_own, setF_ite, sExp_ap, expK_ap, sIf_ap, ifK_ap, sFor_ap, forK_ap, sWhile_ap, ftK_some, forTurn_ap, retF_some, sRet_ap, retK_ap, sRetN_ap, sBrk_ap, sCont_ap, sPass_ap, cLc_ap, b_add, b_sub, b_mul, b_fdiv, b_mod, b_pow, b_addL, b_addT, b_mulL, b_mulT, n_neg, q_lt, q_le, q_gt, q_ge, q_eq, q_ne, q_eqb, q_neb, c_lt, c_le, c_gt, c_ge, c_eq, t_b, t_i, t_l, t_t, t_n, g_not, i_n, i_b, i_i, i_s, i_l, i_t, g_isn, g_isnn, gi_n, gi_b, gi_i, gi_s, gi_l, gi_t, f_max, f_min, f_abs, f_int, f_intb, f_lenl, f_lent, f_listl, f_listt, f_tupl, f_tupt, f_sum, f_all, f_any, f_sort, f_sortT, g_atl, g_att, s_l, s_t, r_l, List.set_cons_zero, List.set_cons_succ, List.map_cons, List.map_nil, List.nil_append, List.cons_append, Option.map_some, Option.map_none, decide_eq_true_eq, Bool.not_eq_true', decide_eq_false_iff_not, Bool.false_eq_true, if_true, if_false, ite_self, if_false, rep_z, rep_s, lenOk, List.length_cons, List.length_nil]
  · obtain ⟨l, hl1, hl2⟩ := key (ns.take top) (by rw [List.length_take]; omega) hp (hm2.elim (fun q => .inr (by rw [List.length_take]; omega)) .inl)
    refine ⟨l, ?_, by rw [hl1, List.length_take]; omega, by rw [hl1]; exact hp⟩
    refine call_fw m__law_cells rfl rfl ?_
    have hne : ((ns.take top).map PyData.int).isEmpty = false := by
      cases h : ns.take top with
      | nil => rw [h] at hp; cases hp
      | cons a b => rfl
    simp only [m__law_cells, c0, c1, hne, Bool.not_false, cLenI_ap, lenIK_l, lenIK_t, cSs_eq, cPop_ap, popK0_own, popF_some, popK_ap, sExt_ap, extK0_own, extK2_ap, extD_own, gFld_snap, cFld_eq, cPrp_ap, prpK_ap, noX_ok, cMb_ap, mbK_ap, mbK1_ap, mbK2_ap, rc_ixl, rc_spl, rc_joi, cFst_ap, fK0_ap, evF_nil, evF_cons, fK1_ap, fK2_ap, newK_ret, f_sumt, List.isEmpty_nil, List.isEmpty_cons, not_true_eq_false, not_false_eq_true, r_t, perm_cons, permC_some, List.getElem?_cons_zero, List.getElem?_cons_succ, at_0, at_1, at_2, at_3, at_4, at_last, List.length_map, reduceCtorEq, lcTurn_ap, lcK3_ap, lcK2_ap, lcE_some, evC_none, evC_some, wipe_nil, wipe_cons, rest_nil, rest_cons, fw_next, fw_ret, fw_brk, fw_cont, fw_ite, Nat.reduceAdd, Nat.reduceLeDiff, true_and, and_true, and_self, cRg1_ap, rg1K_f, rg1K_t, cRg2_ap, rg2K_ap, rg2K2_f, rg2K2_t, bind_ok, bind_no, bind_exc, bind_ite, opt_some, opt_none, opt_ite, val_okv, val_oko, val_no, val_exc, val_ite, opn_eq, flow_ok, flow_no, flow_exc, flow_ite, seq_next, seq_ret, seq_brk, seq_cont, seq_exc, seq_no, seq_ite, turn_next, turn_ret, turn_brk, turn_cont, turn_exc, turn_ite, done_next, done_ret, done_exc, done_ite, mask_nil, mask_t, mask_f, orNo_some, orNo_none, getS_z, getS_s, cVar_ap, rdV_val, rdV_own, cMov_ap, rdM_val, rdM_own, dat_val, dat_own, datV_eq, datS_val, datS_own, datR_eq, datSR_val, datSR_own, datSR_rd, cCon_ap, cVal_ap, cValK_ap, c1_ap, c1K_ap, c2_ap, c2K_ap, gO_some, c1V_ap, c2V_ap, c2V0_some, c2VK_ap, c2W_ap, c2WK_ap, bl_some, cBin_eq, cNeg_eq, cNot_eq, cCmp_eq, cIsN_eq, cSub_eq, cSubV_eq, cRev_eq, cRevV_eq, cInV_eq, cIsi_eq, cIsiV_eq, cBiV_ap, cChn_ap, chnKx_ap, chnKy_ap, chnK1_ap, chnK2_ap, cAnd_ap, andK_ap, andK2_ap, cOr_ap, orK_val, orK_own, orK2_ap, cIte_ap, iteK_ap, consK_ap, appK_ap, evs_nil, evs_cons, evsK_ap, evI_nil, evI_one, evIK_ap, evIA_ap, evI_star, evIS_ap, seqO_some, evI_starV, seqD_l, seqD_t, cLst_ap, lstK_ap, cTup_ap, tupK_ap, evO_none, someK_ap, evO_some, evOK_ap, intO_i, cSl_ap, slK1_ap, slK2_ap, slK3_ap, cSlV_ap, slV0_some, slVK1_ap, slVK2_ap, cBi_ap, biK_ap, evA_nil, evA_ref, evA0_some, evA_val, evAK_ap, cCall_ap, callK_ap, callK2_ap, back_ret, back_exc, putBack_nil, putBack_ref, putBack_val, atCall_nil, atCall_ref, consO_some, atC0_some, atCall_val, cCallK_ap, callKK_ap, callKK2_ap, perm_nil, tVal_ap, tvK_ap, tAnd_ap, tAndK_ap, tOr_ap, tOrK_ap, tNot_ap, tNotK_ap, iIt_ap, itK_ap, items_l, items_t, iRng1_ap, r1K_ap, iRng2_ap, r2K1_ap, r2K_ap, iZip_ap, zipK1_ap, zipK_ap, zipD_l, zipD_t, iEnm_ap, enmK_ap, enmD_l, enmD_t, sSeq_ap, keep_tv, keep_to, keep_fv, keep_fo, setF_some, sAsg_ap, asgK_ap, nxF_some, sAsgT_ap, asgTK_ap, bindT_nm, bindT_tt, bindT_tl, bindTs_nil, bndK_some, bindTs_cons, evSs_nil, evSs_cons, evSsK_ap, sPar_ap, parK_ap, setPar_nil, parO_some, setPar_cons, sSetIx_ap, sixK_ap, sixK2_some, sixK3_ap, setDN_some, setD_own, sApp_ap, appK0_own, appK2_ap, appD_own, setF_ite, sExp_ap, expK_ap, sIf_ap, ifK_ap, sFor_ap, forK_ap, sWhile_ap, ftK_some, forTurn_ap, retF_some, sRet_ap, retK_ap, sRetN_ap, sBrk_ap, sCont_ap, sPass_ap, cLc_ap, b_add, b_sub, b_mul, b_fdiv, b_mod, b_pow, b_addL, b_addT, b_mulL, b_mulT, n_neg, q_lt, q_le, q_gt, q_ge, q_eq, q_ne, q_eqb, q_neb, c_lt, c_le, c_gt, c_ge, c_eq, t_b, t_i, t_l, t_t, t_n, g_not, i_n, i_b, i_i, i_s, i_l, i_t, g_isn, g_isnn, gi_n, gi_b, gi_i, gi_s, gi_l, gi_t, f_max, f_min, f_abs, f_int, f_intb, f_lenl, f_lent, f_listl, f_listt, f_tupl, f_tupt, f_sum, f_all, f_any, f_sort, f_sortT, g_atl, g_att, s_l, s_t, r_l, List.set_cons_zero, List.set_cons_succ, List.map_cons, List.map_nil, List.nil_append, List.cons_append, Option.map_some, Option.map_none, decide_eq_true_eq, Bool.not_eq_true', decide_eq_false_iff_not, Bool.false_eq_true, if_true, if_false, ite_self, if_false, rep_z, rep_s, lenOk, List.length_cons, List.length_nil]
    refine hl2 _ _ _ fun o1 o2 o3 => ?_
    simp only [cLenI_ap, lenIK_l, lenIK_t, cSs_eq, cPop_ap, popK0_own, popF_some, popK_ap, sExt_ap, extK0_own, extK2_ap, extD_own, gFld_snap, cFld_eq, cPrp_ap, prpK_ap, noX_ok, cMb_ap, mbK_ap, mbK1_ap, mbK2_ap, rc_ixl, rc_spl, rc_joi, cFst_ap, fK0_ap, evF_nil, evF_cons, fK1_ap, fK2_ap, newK_ret, f_sumt, List.isEmpty_nil, List.isEmpty_cons, not_true_eq_false, not_false_eq_true, r_t, perm_cons, permC_some, List.getElem?_cons_zero, List.getElem?_cons_succ, at_0, at_1, at_2, at_3, at_4, at_last, List.length_map, reduceCtorEq, lcTurn_ap, lcK3_ap, lcK2_ap, lcE_some, evC_none, evC_some, wipe_nil, wipe_cons, rest_nil, rest_cons, fw_next, fw_ret, fw_brk, fw_cont, fw_ite, Nat.reduceAdd, Nat.reduceLeDiff, true_and, and_true, and_self, cRg1_ap, rg1K_f, rg1K_t, cRg2_ap, rg2K_ap, rg2K2_f, rg2K2_t, bind_ok, bind_no, bind_exc, bind_ite, opt_some, opt_none, opt_ite, val_okv, val_oko, val_no, val_exc, val_ite, opn_eq, flow_ok, flow_no, flow_exc, flow_ite, seq_next, seq_ret, seq_brk, seq_cont, seq_exc, seq_no, seq_ite, turn_next, turn_ret, turn_brk, turn_cont, turn_exc, turn_ite, done_next, done_ret, done_exc, done_ite, mask_nil, mask_t, mask_f, orNo_some, orNo_none, getS_z, getS_s, cVar_ap, rdV_val, rdV_own, cMov_ap, rdM_val, rdM_own, dat_val, dat_own, datV_eq, datS_val, datS_own, datR_eq, datSR_val, datSR_own, datSR_rd, cCon_ap, cVal_ap, cValK_ap, c1_ap, c1K_ap, c2_ap, c2K_ap, gO_some, c1V_ap, c2V_ap, c2V0_some, c2VK_ap, c2W_ap, c2WK_ap, bl_some, cBin_eq, cNeg_eq, cNot_eq, cCmp_eq, cIsN_eq, cSub_eq, cSubV_eq, cRev_eq, cRevV_eq, cInV_eq, cIsi_eq, cIsiV_eq, cBiV_ap, cChn_ap, chnKx_ap, chnKy_ap, chnK1_ap, chnK2_ap, cAnd_ap, andK_ap, andK2_ap, cOr_ap, orK_val, orK_own, orK2_ap, cIte_ap, iteK_ap, consK_ap, appK_ap, evs_nil, evs_cons, evsK_ap, evI_nil, evI_one, evIK_ap, evIA_ap, evI_star, evIS_ap, seqO_some, evI_starV, seqD_l, seqD_t, cLst_ap, lstK_ap, cTup_ap, tupK_ap, evO_none, someK_ap, evO_some, evOK_ap, intO_i, cSl_ap, slK1_ap, slK2_ap, slK3_ap, cSlV_ap, slV0_some, slVK1_ap, slVK2_ap, cBi_ap, biK_ap, evA_nil, evA_ref, evA0_some, evA_val, evAK_ap, cCall_ap, callK_ap, callK2_ap, back_ret, back_exc, putBack_nil, putBack_ref, putBack_val, atCall_nil, atCall_ref, consO_some, atC0_some, atCall_val, cCallK_ap, callKK_ap, callKK2_ap, perm_nil, tVal_ap, tvK_ap, tAnd_ap, tAndK_ap, tOr_ap, tOrK_ap, tNot_ap, tNotK_ap, iIt_ap, itK_ap, items_l, items_t, iRng1_ap, r1K_ap, iRng2_ap, r2K1_ap, r2K_ap, iZip_ap, zipK1_ap, zipK_ap, zipD_l, zipD_t, iEnm_ap, enmK_ap, enmD_l, enmD_t, sSeq_ap, keep_tv, keep_to, keep_fv, keep_fo, setF_some, sAsg_ap, asgK_ap, nxF_some, sAsgT_ap, asgTK_ap, bindT_nm, bindT_tt, bindT_tl, bindTs_nil, bndK_some, bindTs_cons, evSs_nil, evSs_cons, evSsK_ap, sPar_ap, parK_ap, setPar_nil, parO_some, setPar_cons, sSetIx_ap, sixK_ap, sixK2_some, sixK3_ap, setDN_some, setD_own, sApp_ap, appK0_own, appK2_ap, appD_own, setF_ite, sExp_ap, expK_ap, sIf_ap, ifK_ap, sFor_ap, forK_ap, sWhile_ap, ftK_some, forTurn_ap, retF_some, sRet_ap, retK_ap, sRetN_ap, sBrk_ap, sCont_ap, sPass_ap, cLc_ap, b_add, b_sub, b_mul, b_fdiv, b_mod, b_pow, b_addL, b_addT, b_mulL, b_mulT, n_neg, q_lt, q_le, q_gt, q_ge, q_eq, q_ne, q_eqb, q_neb, c_lt, c_le, c_gt, c_ge, c_eq, t_b, t_i, t_l, t_t, t_n, g_not, i_n, i_b, i_i, i_s, i_l, i_t, g_isn, g_isnn, gi_n, gi_b, gi_i, gi_s, gi_l, gi_t, f_max, f_min, f_abs, f_int, f_intb, f_lenl, f_lent, f_listl, f_listt, f_tupl, f_tupt, f_sum, f_all, f_any, f_sort, f_sortT, g_atl, g_att, s_l, s_t, r_l, List.set_cons_zero, List.set_cons_succ, List.map_cons, List.map_nil, List.nil_append, List.cons_append, Option.map_some, Option.map_none, decide_eq_true_eq, Bool.not_eq_true', decide_eq_false_iff_not, Bool.false_eq_true, if_true, if_false, ite_self, if_false, rep_z, rep_s, lenOk, List.length_cons, List.length_nil]
def tl (rs : List Int) (s : Ev.Slot) : Prop := s = .val (.tuple (rs.map .int)) ∨ s = .val (.list (rs.map .int)) ∨ s = .own (rs.map .int)
theorem box_ok (n : Nat) (l : List Int) (k : Nat) (hk : k < l.length) (hl : l.length ≤ 63) (s : Ev.Slot) (hs : s = .own (l.map .int) ∨ s = .val (.list (l.map .int))) :
    ∃ bx, call P (n + 1) 3 [s, .val (I k)] = .ret (.own bx) [none, none] ∧ Box 0 bx := by
  have a1 : atL (l.map PyData.int) (k : Int) = some (.int (l.getD k 0)) := by rw [atL_map l _ (by omega) (by omega), Int.toNat_natCast]
  have p1 : powOk 10 18 = true := by decide +kernel
  have m1 : ∀ (x : Int) (p : Prop) [Decidable p], mulOk x (if p then 1 else 0) = true := fun x p _ => mul_r (by split <;> omega) (by split <;> omega)
  have m2 : mulOk 39373 (k : Int) = true := mul_l (by omega) (by omega)
  have hk2 : (k : Int) < (l.length : Int) := by omega
  have key : call P (n + 1) 3 [s, .val (I k)] = .ret (.own [I (((l.getD k 0).natAbs : Int) * (if (10 : Int) ^ (18 : Int).toNat ≤ ((l.getD k 0).natAbs : Int) then 1 else 0)), I ((l.getD k 0) % 2305843009213693951 + 39373 * (k : Int) + 82503), I 0]) [none, none] := by
    rw [call_eq m__law_box rfl rfl]
    rcases hs with rfl | rfl <;> simp only [m__law_box, a1, p1, m1, m2, hk2, List.length_map, show (0 : Int) < 2305843009213693951 by omega, cLenI_ap, lenIK_l, lenIK_t, cSs_eq, cPop_ap, popK0_own, popF_some, popK_ap, sExt_ap, extK0_own, extK2_ap, extD_own, gFld_snap, cFld_eq, cPrp_ap, prpK_ap, noX_ok, cMb_ap, mbK_ap, mbK1_ap, mbK2_ap, rc_ixl, rc_spl, rc_joi, cFst_ap, fK0_ap, evF_nil, evF_cons, fK1_ap, fK2_ap, newK_ret, f_sumt, List.isEmpty_nil, List.isEmpty_cons, not_true_eq_false, not_false_eq_true, r_t, perm_cons, permC_some, List.getElem?_cons_zero, List.getElem?_cons_succ, at_0, at_1, at_2, at_3, at_4, at_last, List.length_map, reduceCtorEq, lcTurn_ap, lcK3_ap, lcK2_ap, lcE_some, evC_none, evC_some, wipe_nil, wipe_cons, rest_nil, rest_cons, fw_next, fw_ret, fw_brk, fw_cont, fw_ite, Nat.reduceAdd, Nat.reduceLeDiff, true_and, and_true, and_self, cRg1_ap, rg1K_f, rg1K_t, cRg2_ap, rg2K_ap, rg2K2_f, rg2K2_t, bind_ok, bind_no, bind_exc, bind_ite, opt_some, opt_none, opt_ite, val_okv, val_oko, val_no, val_exc, val_ite, opn_eq, flow_ok, flow_no, flow_exc, flow_ite, seq_next, seq_ret, seq_brk, seq_cont, seq_exc, seq_no, seq_ite, turn_next, turn_ret, turn_brk, turn_cont, turn_exc, turn_ite, done_next, done_ret, done_exc, done_ite, mask_nil, mask_t, mask_f, orNo_some, orNo_none, getS_z, getS_s, cVar_ap, rdV_val, rdV_own, cMov_ap, rdM_val, rdM_own, dat_val, dat_own, datV_eq, datS_val, datS_own, datR_eq, datSR_val, datSR_own, datSR_rd, cCon_ap, cVal_ap, cValK_ap, c1_ap, c1K_ap, c2_ap, c2K_ap, gO_some, c1V_ap, c2V_ap, c2V0_some, c2VK_ap, c2W_ap, c2WK_ap, bl_some, cBin_eq, cNeg_eq, cNot_eq, cCmp_eq, cIsN_eq, cSub_eq, cSubV_eq, cRev_eq, cRevV_eq, cInV_eq, cIsi_eq, cIsiV_eq, cBiV_ap, cChn_ap, chnKx_ap, chnKy_ap, chnK1_ap, chnK2_ap, cAnd_ap, andK_ap, andK2_ap, cOr_ap, orK_val, orK_own, orK2_ap, cIte_ap, iteK_ap, consK_ap, appK_ap, evs_nil, evs_cons, evsK_ap, evI_nil, evI_one, evIK_ap, evIA_ap, evI_star, evIS_ap, seqO_some, evI_starV, seqD_l, seqD_t, cLst_ap, lstK_ap, cTup_ap, tupK_ap, evO_none, someK_ap, evO_some, evOK_ap, intO_i, cSl_ap, slK1_ap, slK2_ap, slK3_ap, cSlV_ap, slV0_some, slVK1_ap, slVK2_ap, cBi_ap, biK_ap, evA_nil, evA_ref, evA0_some, evA_val, evAK_ap, cCall_ap, callK_ap, callK2_ap, back_ret, back_exc, putBack_nil, putBack_ref, putBack_val, atCall_nil, atCall_ref, consO_some, atC0_some, atCall_val, cCallK_ap, callKK_ap, callKK2_ap, perm_nil, tVal_ap, tvK_ap, tAnd_ap, tAndK_ap, tOr_ap, tOrK_ap, tNot_ap, tNotK_ap, iIt_ap, itK_ap, items_l, items_t, iRng1_ap, r1K_ap, iRng2_ap, r2K1_ap, r2K_ap, iZip_ap, zipK1_ap, zipK_ap, zipD_l, zipD_t, iEnm_ap, enmK_ap, enmD_l, enmD_t, sSeq_ap, keep_tv, keep_to, keep_fv, keep_fo, setF_some, sAsg_ap, asgK_ap, nxF_some, sAsgT_ap, asgTK_ap, bindT_nm, bindT_tt, bindT_tl, bindTs_nil, bndK_some, bindTs_cons, evSs_nil, evSs_cons, evSsK_ap, sPar_ap, parK_ap, setPar_nil, parO_some, setPar_cons, sSetIx_ap, sixK_ap, sixK2_some, sixK3_ap, setDN_some, setD_own, sApp_ap, appK0_own, appK2_ap, appD_own, setF_ite, sExp_ap, expK_ap, sIf_ap, ifK_ap, sFor_ap, forK_ap, sWhile_ap, ftK_some, forTurn_ap, retF_some, sRet_ap, retK_ap, sRetN_ap, sBrk_ap, sCont_ap, sPass_ap, cLc_ap, b_add, b_sub, b_mul, b_fdiv, b_mod, b_pow, b_addL, b_addT, b_mulL, b_mulT, n_neg, q_lt, q_le, q_gt, q_ge, q_eq, q_ne, q_eqb, q_neb, c_lt, c_le, c_gt, c_ge, c_eq, t_b, t_i, t_l, t_t, t_n, g_not, i_n, i_b, i_i, i_s, i_l, i_t, g_isn, g_isnn, gi_n, gi_b, gi_i, gi_s, gi_l, gi_t, f_max, f_min, f_abs, f_int, f_intb, f_lenl, f_lent, f_listl, f_listt, f_tupl, f_tupt, f_sum, f_all, f_any, f_sort, f_sortT, g_atl, g_att, s_l, s_t, r_l, List.set_cons_zero, List.set_cons_succ, List.map_cons, List.map_nil, List.nil_append, List.cons_append, Option.map_some, Option.map_none, decide_eq_true_eq, Bool.not_eq_true', decide_eq_false_iff_not, Bool.false_eq_true, if_true, if_false, ite_self, if_false, rep_z, rep_s, lenOk, List.length_cons, List.length_nil]
  refine ⟨_, key, _, _, _, rfl, Int.mul_nonneg (by omega) (by split <;> omega), ?_, ?_, by omega, by omega⟩ <;> omega
/-! what is held beside itself -/
theorem str_beq (x : Str) : (x == x) = true := by simp
theorem same_ok (m : Nat) : ∀ (d : D), okD d → dpD d ≤ m → ∀ (n : Nat) (s1 s2 : Ev.Slot), s1.dat = some d → s2.dat = some d →
    call P (n + m + 1) 7 [s1, s2] = .ret (.val (.bool true)) [some (.val d), some (.val d)] := by
  induction m with
  | zero =>
    intro d hd hm n s1 s2 h1 h2
    have e1 : s1 = .val d := by
      cases s1 with
      | val x => cases h1; rfl
      | own x => cases h1; simp [dpD] at hm
      | rd x => cases h1
    have e2 : s2 = .val d := by
      cases s2 with
      | val x => cases h2; rfl
      | own x => cases h2; simp [dpD] at hm
      | rd x => cases h2
    subst e1 e2
    rw [call_eq m__law_same rfl rfl]
    cases d with
    | none => simp only [m__law_same, List.any_cons, List.any_nil, isTy, Bool.or_false, q_eqn, beq_self_eq_true, Bool.not_true, Bool.not_false, cLenI_ap, lenIK_l, lenIK_t, cSs_eq, cPop_ap, popK0_own, popF_some, popK_ap, sExt_ap, extK0_own, extK2_ap, extD_own, gFld_snap, cFld_eq, cPrp_ap, prpK_ap, noX_ok, cMb_ap, mbK_ap, mbK1_ap, mbK2_ap, rc_ixl, rc_spl, rc_joi, cFst_ap, fK0_ap, evF_nil, evF_cons, fK1_ap, fK2_ap, newK_ret, f_sumt, List.isEmpty_nil, List.isEmpty_cons, not_true_eq_false, not_false_eq_true, r_t, perm_cons, permC_some, List.getElem?_cons_zero, List.getElem?_cons_succ, at_0, at_1, at_2, at_3, at_4, at_last, List.length_map, reduceCtorEq, lcTurn_ap, lcK3_ap, lcK2_ap, lcE_some, evC_none, evC_some, wipe_nil, wipe_cons, rest_nil, rest_cons, fw_next, fw_ret, fw_brk, fw_cont, fw_ite, Nat.reduceAdd, Nat.reduceLeDiff, true_and, and_true, and_self, cRg1_ap, rg1K_f, rg1K_t, cRg2_ap, rg2K_ap, rg2K2_f, rg2K2_t, bind_ok, bind_no, bind_exc, bind_ite, opt_some, opt_none, opt_ite, val_okv, val_oko, val_no, val_exc, val_ite, opn_eq, flow_ok, flow_no, flow_exc, flow_ite, seq_next, seq_ret, seq_brk, seq_cont, seq_exc, seq_no, seq_ite, turn_next, turn_ret, turn_brk, turn_cont, turn_exc, turn_ite, done_next, done_ret, done_exc, done_ite, mask_nil, mask_t, mask_f, orNo_some, orNo_none, getS_z, getS_s, cVar_ap, rdV_val, rdV_own, cMov_ap, rdM_val, rdM_own, dat_val, dat_own, datV_eq, datS_val, datS_own, datR_eq, datSR_val, datSR_own, datSR_rd, cCon_ap, cVal_ap, cValK_ap, c1_ap, c1K_ap, c2_ap, c2K_ap, gO_some, c1V_ap, c2V_ap, c2V0_some, c2VK_ap, c2W_ap, c2WK_ap, bl_some, cBin_eq, cNeg_eq, cNot_eq, cCmp_eq, cIsN_eq, cSub_eq, cSubV_eq, cRev_eq, cRevV_eq, cInV_eq, cIsi_eq, cIsiV_eq, cBiV_ap, cChn_ap, chnKx_ap, chnKy_ap, chnK1_ap, chnK2_ap, cAnd_ap, andK_ap, andK2_ap, cOr_ap, orK_val, orK_own, orK2_ap, cIte_ap, iteK_ap, consK_ap, appK_ap, evs_nil, evs_cons, evsK_ap, evI_nil, evI_one, evIK_ap, evIA_ap, evI_star, evIS_ap, seqO_some, evI_starV, seqD_l, seqD_t, cLst_ap, lstK_ap, cTup_ap, tupK_ap, evO_none, someK_ap, evO_some, evOK_ap, intO_i, cSl_ap, slK1_ap, slK2_ap, slK3_ap, cSlV_ap, slV0_some, slVK1_ap, slVK2_ap, cBi_ap, biK_ap, evA_nil, evA_ref, evA0_some, evA_val, evAK_ap, cCall_ap, callK_ap, callK2_ap, back_ret, back_exc, putBack_nil, putBack_ref, putBack_val, atCall_nil, atCall_ref, consO_some, atC0_some, atCall_val, cCallK_ap, callKK_ap, callKK2_ap, perm_nil, tVal_ap, tvK_ap, tAnd_ap, tAndK_ap, tOr_ap, tOrK_ap, tNot_ap, tNotK_ap, iIt_ap, itK_ap, items_l, items_t, iRng1_ap, r1K_ap, iRng2_ap, r2K1_ap, r2K_ap, iZip_ap, zipK1_ap, zipK_ap, zipD_l, zipD_t, iEnm_ap, enmK_ap, enmD_l, enmD_t, sSeq_ap, keep_tv, keep_to, keep_fv, keep_fo, setF_some, sAsg_ap, asgK_ap, nxF_some, sAsgT_ap, asgTK_ap, bindT_nm, bindT_tt, bindT_tl, bindTs_nil, bndK_some, bindTs_cons, evSs_nil, evSs_cons, evSsK_ap, sPar_ap, parK_ap, setPar_nil, parO_some, setPar_cons, sSetIx_ap, sixK_ap, sixK2_some, sixK3_ap, setDN_some, setD_own, sApp_ap, appK0_own, appK2_ap, appD_own, setF_ite, sExp_ap, expK_ap, sIf_ap, ifK_ap, sFor_ap, forK_ap, sWhile_ap, ftK_some, forTurn_ap, retF_some, sRet_ap, retK_ap, sRetN_ap, sBrk_ap, sCont_ap, sPass_ap, cLc_ap, b_add, b_sub, b_mul, b_fdiv, b_mod, b_pow, b_addL, b_addT, b_mulL, b_mulT, n_neg, q_lt, q_le, q_gt, q_ge, q_eq, q_ne, q_eqb, q_neb, c_lt, c_le, c_gt, c_ge, c_eq, t_b, t_i, t_l, t_t, t_n, g_not, i_n, i_b, i_i, i_s, i_l, i_t, g_isn, g_isnn, gi_n, gi_b, gi_i, gi_s, gi_l, gi_t, f_max, f_min, f_abs, f_int, f_intb, f_lenl, f_lent, f_listl, f_listt, f_tupl, f_tupt, f_sum, f_all, f_any, f_sort, f_sortT, g_atl, g_att, s_l, s_t, r_l, List.set_cons_zero, List.set_cons_succ, List.map_cons, List.map_nil, List.nil_append, List.cons_append, Option.map_some, Option.map_none, decide_eq_true_eq, Bool.not_eq_true', decide_eq_false_iff_not, Bool.false_eq_true, if_true, if_false, ite_self, if_false, rep_z, rep_s, lenOk, List.length_cons, List.length_nil]
    | bool b => simp only [m__law_same, List.any_cons, List.any_nil, isTy, Bool.or_false, beq_self_eq_true, Bool.not_true, Bool.not_false, Bool.true_or, Bool.or_true, cLenI_ap, lenIK_l, lenIK_t, cSs_eq, cPop_ap, popK0_own, popF_some, popK_ap, sExt_ap, extK0_own, extK2_ap, extD_own, gFld_snap, cFld_eq, cPrp_ap, prpK_ap, noX_ok, cMb_ap, mbK_ap, mbK1_ap, mbK2_ap, rc_ixl, rc_spl, rc_joi, cFst_ap, fK0_ap, evF_nil, evF_cons, fK1_ap, fK2_ap, newK_ret, f_sumt, List.isEmpty_nil, List.isEmpty_cons, not_true_eq_false, not_false_eq_true, r_t, perm_cons, permC_some, List.getElem?_cons_zero, List.getElem?_cons_succ, at_0, at_1, at_2, at_3, at_4, at_last, List.length_map, reduceCtorEq, lcTurn_ap, lcK3_ap, lcK2_ap, lcE_some, evC_none, evC_some, wipe_nil, wipe_cons, rest_nil, rest_cons, fw_next, fw_ret, fw_brk, fw_cont, fw_ite, Nat.reduceAdd, Nat.reduceLeDiff, true_and, and_true, and_self, cRg1_ap, rg1K_f, rg1K_t, cRg2_ap, rg2K_ap, rg2K2_f, rg2K2_t, bind_ok, bind_no, bind_exc, bind_ite, opt_some, opt_none, opt_ite, val_okv, val_oko, val_no, val_exc, val_ite, opn_eq, flow_ok, flow_no, flow_exc, flow_ite, seq_next, seq_ret, seq_brk, seq_cont, seq_exc, seq_no, seq_ite, turn_next, turn_ret, turn_brk, turn_cont, turn_exc, turn_ite, done_next, done_ret, done_exc, done_ite, mask_nil, mask_t, mask_f, orNo_some, orNo_none, getS_z, getS_s, cVar_ap, rdV_val, rdV_own, cMov_ap, rdM_val, rdM_own, dat_val, dat_own, datV_eq, datS_val, datS_own, datR_eq, datSR_val, datSR_own, datSR_rd, cCon_ap, cVal_ap, cValK_ap, c1_ap, c1K_ap, c2_ap, c2K_ap, gO_some, c1V_ap, c2V_ap, c2V0_some, c2VK_ap, c2W_ap, c2WK_ap, bl_some, cBin_eq, cNeg_eq, cNot_eq, cCmp_eq, cIsN_eq, cSub_eq, cSubV_eq, cRev_eq, cRevV_eq, cInV_eq, cIsi_eq, cIsiV_eq, cBiV_ap, cChn_ap, chnKx_ap, chnKy_ap, chnK1_ap, chnK2_ap, cAnd_ap, andK_ap, andK2_ap, cOr_ap, orK_val, orK_own, orK2_ap, cIte_ap, iteK_ap, consK_ap, appK_ap, evs_nil, evs_cons, evsK_ap, evI_nil, evI_one, evIK_ap, evIA_ap, evI_star, evIS_ap, seqO_some, evI_starV, seqD_l, seqD_t, cLst_ap, lstK_ap, cTup_ap, tupK_ap, evO_none, someK_ap, evO_some, evOK_ap, intO_i, cSl_ap, slK1_ap, slK2_ap, slK3_ap, cSlV_ap, slV0_some, slVK1_ap, slVK2_ap, cBi_ap, biK_ap, evA_nil, evA_ref, evA0_some, evA_val, evAK_ap, cCall_ap, callK_ap, callK2_ap, back_ret, back_exc, putBack_nil, putBack_ref, putBack_val, atCall_nil, atCall_ref, consO_some, atC0_some, atCall_val, cCallK_ap, callKK_ap, callKK2_ap, perm_nil, tVal_ap, tvK_ap, tAnd_ap, tAndK_ap, tOr_ap, tOrK_ap, tNot_ap, tNotK_ap, iIt_ap, itK_ap, items_l, items_t, iRng1_ap, r1K_ap, iRng2_ap, r2K1_ap, r2K_ap, iZip_ap, zipK1_ap, zipK_ap, zipD_l, zipD_t, iEnm_ap, enmK_ap, enmD_l, enmD_t, sSeq_ap, keep_tv, keep_to, keep_fv, keep_fo, setF_some, sAsg_ap, asgK_ap, nxF_some, sAsgT_ap, asgTK_ap, bindT_nm, bindT_tt, bindT_tl, bindTs_nil, bndK_some, bindTs_cons, evSs_nil, evSs_cons, evSsK_ap, sPar_ap, parK_ap, setPar_nil, parO_some, setPar_cons, sSetIx_ap, sixK_ap, sixK2_some, sixK3_ap, setDN_some, setD_own, sApp_ap, appK0_own, appK2_ap, appD_own, setF_ite, sExp_ap, expK_ap, sIf_ap, ifK_ap, sFor_ap, forK_ap, sWhile_ap, ftK_some, forTurn_ap, retF_some, sRet_ap, retK_ap, sRetN_ap, sBrk_ap, sCont_ap, sPass_ap, cLc_ap, b_add, b_sub, b_mul, b_fdiv, b_mod, b_pow, b_addL, b_addT, b_mulL, b_mulT, n_neg, q_lt, q_le, q_gt, q_ge, q_eq, q_ne, q_eqb, q_neb, c_lt, c_le, c_gt, c_ge, c_eq, t_b, t_i, t_l, t_t, t_n, g_not, i_n, i_b, i_i, i_s, i_l, i_t, g_isn, g_isnn, gi_n, gi_b, gi_i, gi_s, gi_l, gi_t, f_max, f_min, f_abs, f_int, f_intb, f_lenl, f_lent, f_listl, f_listt, f_tupl, f_tupt, f_sum, f_all, f_any, f_sort, f_sortT, g_atl, g_att, s_l, s_t, r_l, List.set_cons_zero, List.set_cons_succ, List.map_cons, List.map_nil, List.nil_append, List.cons_append, Option.map_some, Option.map_none, decide_eq_true_eq, Bool.not_eq_true', decide_eq_false_iff_not, Bool.false_eq_true, if_true, if_false, ite_self, if_false, rep_z, rep_s, lenOk, List.length_cons, List.length_nil]
    | int i => simp only [m__law_same, List.any_cons, List.any_nil, isTy, Bool.or_false, beq_self_eq_true, Bool.not_true, Bool.not_false, decide_true, cLenI_ap, lenIK_l, lenIK_t, cSs_eq, cPop_ap, popK0_own, popF_some, popK_ap, sExt_ap, extK0_own, extK2_ap, extD_own, gFld_snap, cFld_eq, cPrp_ap, prpK_ap, noX_ok, cMb_ap, mbK_ap, mbK1_ap, mbK2_ap, rc_ixl, rc_spl, rc_joi, cFst_ap, fK0_ap, evF_nil, evF_cons, fK1_ap, fK2_ap, newK_ret, f_sumt, List.isEmpty_nil, List.isEmpty_cons, not_true_eq_false, not_false_eq_true, r_t, perm_cons, permC_some, List.getElem?_cons_zero, List.getElem?_cons_succ, at_0, at_1, at_2, at_3, at_4, at_last, List.length_map, reduceCtorEq, lcTurn_ap, lcK3_ap, lcK2_ap, lcE_some, evC_none, evC_some, wipe_nil, wipe_cons, rest_nil, rest_cons, fw_next, fw_ret, fw_brk, fw_cont, fw_ite, Nat.reduceAdd, Nat.reduceLeDiff, true_and, and_true, and_self, cRg1_ap, rg1K_f, rg1K_t, cRg2_ap, rg2K_ap, rg2K2_f, rg2K2_t, bind_ok, bind_no, bind_exc, bind_ite, opt_some, opt_none, opt_ite, val_okv, val_oko, val_no, val_exc, val_ite, opn_eq, flow_ok, flow_no, flow_exc, flow_ite, seq_next, seq_ret, seq_brk, seq_cont, seq_exc, seq_no, seq_ite, turn_next, turn_ret, turn_brk, turn_cont, turn_exc, turn_ite, done_next, done_ret, done_exc, done_ite, mask_nil, mask_t, mask_f, orNo_some, orNo_none, getS_z, getS_s, cVar_ap, rdV_val, rdV_own, cMov_ap, rdM_val, rdM_own, dat_val, dat_own, datV_eq, datS_val, datS_own, datR_eq, datSR_val, datSR_own, datSR_rd, cCon_ap, cVal_ap, cValK_ap, c1_ap, c1K_ap, c2_ap, c2K_ap, gO_some, c1V_ap, c2V_ap, c2V0_some, c2VK_ap, c2W_ap, c2WK_ap, bl_some, cBin_eq, cNeg_eq, cNot_eq, cCmp_eq, cIsN_eq, cSub_eq, cSubV_eq, cRev_eq, cRevV_eq, cInV_eq, cIsi_eq, cIsiV_eq, cBiV_ap, cChn_ap, chnKx_ap, chnKy_ap, chnK1_ap, chnK2_ap, cAnd_ap, andK_ap, andK2_ap, cOr_ap, orK_val, orK_own, orK2_ap, cIte_ap, iteK_ap, consK_ap, appK_ap, evs_nil, evs_cons, evsK_ap, evI_nil, evI_one, evIK_ap, evIA_ap, evI_star, evIS_ap, seqO_some, evI_starV, seqD_l, seqD_t, cLst_ap, lstK_ap, cTup_ap, tupK_ap, evO_none, someK_ap, evO_some, evOK_ap, intO_i, cSl_ap, slK1_ap, slK2_ap, slK3_ap, cSlV_ap, slV0_some, slVK1_ap, slVK2_ap, cBi_ap, biK_ap, evA_nil, evA_ref, evA0_some, evA_val, evAK_ap, cCall_ap, callK_ap, callK2_ap, back_ret, back_exc, putBack_nil, putBack_ref, putBack_val, atCall_nil, atCall_ref, consO_some, atC0_some, atCall_val, cCallK_ap, callKK_ap, callKK2_ap, perm_nil, tVal_ap, tvK_ap, tAnd_ap, tAndK_ap, tOr_ap, tOrK_ap, tNot_ap, tNotK_ap, iIt_ap, itK_ap, items_l, items_t, iRng1_ap, r1K_ap, iRng2_ap, r2K1_ap, r2K_ap, iZip_ap, zipK1_ap, zipK_ap, zipD_l, zipD_t, iEnm_ap, enmK_ap, enmD_l, enmD_t, sSeq_ap, keep_tv, keep_to, keep_fv, keep_fo, setF_some, sAsg_ap, asgK_ap, nxF_some, sAsgT_ap, asgTK_ap, bindT_nm, bindT_tt, bindT_tl, bindTs_nil, bndK_some, bindTs_cons, evSs_nil, evSs_cons, evSsK_ap, sPar_ap, parK_ap, setPar_nil, parO_some, setPar_cons, sSetIx_ap, sixK_ap, sixK2_some, sixK3_ap, setDN_some, setD_own, sApp_ap, appK0_own, appK2_ap, appD_own, setF_ite, sExp_ap, expK_ap, sIf_ap, ifK_ap, sFor_ap, forK_ap, sWhile_ap, ftK_some, forTurn_ap, retF_some, sRet_ap, retK_ap, sRetN_ap, sBrk_ap, sCont_ap, sPass_ap, cLc_ap, b_add, b_sub, b_mul, b_fdiv, b_mod, b_pow, b_addL, b_addT, b_mulL, b_mulT, n_neg, q_lt, q_le, q_gt, q_ge, q_eq, q_ne, q_eqb, q_neb, c_lt, c_le, c_gt, c_ge, c_eq, t_b, t_i, t_l, t_t, t_n, g_not, i_n, i_b, i_i, i_s, i_l, i_t, g_isn, g_isnn, gi_n, gi_b, gi_i, gi_s, gi_l, gi_t, f_max, f_min, f_abs, f_int, f_intb, f_lenl, f_lent, f_listl, f_listt, f_tupl, f_tupt, f_sum, f_all, f_any, f_sort, f_sortT, g_atl, g_att, s_l, s_t, r_l, List.set_cons_zero, List.set_cons_succ, List.map_cons, List.map_nil, List.nil_append, List.cons_append, Option.map_some, Option.map_none, decide_eq_true_eq, Bool.not_eq_true', decide_eq_false_iff_not, Bool.false_eq_true, if_true, if_false, ite_self, if_false, rep_z, rep_s, lenOk, List.length_cons, List.length_nil]
    | str x => simp only [m__law_same, List.any_cons, List.any_nil, isTy, Bool.or_false, q_eqs, str_beq, beq_self_eq_true, Bool.not_true, Bool.not_false, Bool.true_or, Bool.or_true, cLenI_ap, lenIK_l, lenIK_t, cSs_eq, cPop_ap, popK0_own, popF_some, popK_ap, sExt_ap, extK0_own, extK2_ap, extD_own, gFld_snap, cFld_eq, cPrp_ap, prpK_ap, noX_ok, cMb_ap, mbK_ap, mbK1_ap, mbK2_ap, rc_ixl, rc_spl, rc_joi, cFst_ap, fK0_ap, evF_nil, evF_cons, fK1_ap, fK2_ap, newK_ret, f_sumt, List.isEmpty_nil, List.isEmpty_cons, not_true_eq_false, not_false_eq_true, r_t, perm_cons, permC_some, List.getElem?_cons_zero, List.getElem?_cons_succ, at_0, at_1, at_2, at_3, at_4, at_last, List.length_map, reduceCtorEq, lcTurn_ap, lcK3_ap, lcK2_ap, lcE_some, evC_none, evC_some, wipe_nil, wipe_cons, rest_nil, rest_cons, fw_next, fw_ret, fw_brk, fw_cont, fw_ite, Nat.reduceAdd, Nat.reduceLeDiff, true_and, and_true, and_self, cRg1_ap, rg1K_f, rg1K_t, cRg2_ap, rg2K_ap, rg2K2_f, rg2K2_t, bind_ok, bind_no, bind_exc, bind_ite, opt_some, opt_none, opt_ite, val_okv, val_oko, val_no, val_exc, val_ite, opn_eq, flow_ok, flow_no, flow_exc, flow_ite, seq_next, seq_ret, seq_brk, seq_cont, seq_exc, seq_no, seq_ite, turn_next, turn_ret, turn_brk, turn_cont, turn_exc, turn_ite, done_next, done_ret, done_exc, done_ite, mask_nil, mask_t, mask_f, orNo_some, orNo_none, getS_z, getS_s, cVar_ap, rdV_val, rdV_own, cMov_ap, rdM_val, rdM_own, dat_val, dat_own, datV_eq, datS_val, datS_own, datR_eq, datSR_val, datSR_own, datSR_rd, cCon_ap, cVal_ap, cValK_ap, c1_ap, c1K_ap, c2_ap, c2K_ap, gO_some, c1V_ap, c2V_ap, c2V0_some, c2VK_ap, c2W_ap, c2WK_ap, bl_some, cBin_eq, cNeg_eq, cNot_eq, cCmp_eq, cIsN_eq, cSub_eq, cSubV_eq, cRev_eq, cRevV_eq, cInV_eq, cIsi_eq, cIsiV_eq, cBiV_ap, cChn_ap, chnKx_ap, chnKy_ap, chnK1_ap, chnK2_ap, cAnd_ap, andK_ap, andK2_ap, cOr_ap, orK_val, orK_own, orK2_ap, cIte_ap, iteK_ap, consK_ap, appK_ap, evs_nil, evs_cons, evsK_ap, evI_nil, evI_one, evIK_ap, evIA_ap, evI_star, evIS_ap, seqO_some, evI_starV, seqD_l, seqD_t, cLst_ap, lstK_ap, cTup_ap, tupK_ap, evO_none, someK_ap, evO_some, evOK_ap, intO_i, cSl_ap, slK1_ap, slK2_ap, slK3_ap, cSlV_ap, slV0_some, slVK1_ap, slVK2_ap, cBi_ap, biK_ap, evA_nil, evA_ref, evA0_some, evA_val, evAK_ap, cCall_ap, callK_ap, callK2_ap, back_ret, back_exc, putBack_nil, putBack_ref, putBack_val, atCall_nil, atCall_ref, consO_some, atC0_some, atCall_val, cCallK_ap, callKK_ap, callKK2_ap, perm_nil, tVal_ap, tvK_ap, tAnd_ap, tAndK_ap, tOr_ap, tOrK_ap, tNot_ap, tNotK_ap, iIt_ap, itK_ap, items_l, items_t, iRng1_ap, r1K_ap, iRng2_ap, r2K1_ap, r2K_ap, iZip_ap, zipK1_ap, zipK_ap, zipD_l, zipD_t, iEnm_ap, enmK_ap, enmD_l, enmD_t, sSeq_ap, keep_tv, keep_to, keep_fv, keep_fo, setF_some, sAsg_ap, asgK_ap, nxF_some, sAsgT_ap, asgTK_ap, bindT_nm, bindT_tt, bindT_tl, bindTs_nil, bndK_some, bindTs_cons, evSs_nil, evSs_cons, evSsK_ap, sPar_ap, parK_ap, setPar_nil, parO_some, setPar_cons, sSetIx_ap, sixK_ap, sixK2_some, sixK3_ap, setDN_some, setD_own, sApp_ap, appK0_own, appK2_ap, appD_own, setF_ite, sExp_ap, expK_ap, sIf_ap, ifK_ap, sFor_ap, forK_ap, sWhile_ap, ftK_some, forTurn_ap, retF_some, sRet_ap, retK_ap, sRetN_ap, sBrk_ap, sCont_ap, sPass_ap, cLc_ap, b_add, b_sub, b_mul, b_fdiv, b_mod, b_pow, b_addL, b_addT, b_mulL, b_mulT, n_neg, q_lt, q_le, q_gt, q_ge, q_eq, q_ne, q_eqb, q_neb, c_lt, c_le, c_gt, c_ge, c_eq, t_b, t_i, t_l, t_t, t_n, g_not, i_n, i_b, i_i, i_s, i_l, i_t, g_isn, g_isnn, gi_n, gi_b, gi_i, gi_s, gi_l, gi_t, f_max, f_min, f_abs, f_int, f_intb, f_lenl, f_lent, f_listl, f_listt, f_tupl, f_tupt, f_sum, f_all, f_any, f_sort, f_sortT, g_atl, g_att, s_l, s_t, r_l, List.set_cons_zero, List.set_cons_succ, List.map_cons, List.map_nil, List.nil_append, List.cons_append, Option.map_some, Option.map_none, decide_eq_true_eq, Bool.not_eq_true', decide_eq_false_iff_not, Bool.false_eq_true, if_true, if_false, ite_self, if_false, rep_z, rep_s, lenOk, List.length_cons, List.length_nil]
    | list ds => simp [dpD] at hm
    | tuple ds => simp [dpD] at hm
    | dict _ => exact hd.elim
  | succ m ih =>
    intro d hd hm n s1 s2 h1 h2
    by_cases hz : dpD d ≤ m
    · have q := ih d hd hz (n + 1) s1 s2 h1 h2
      rw [show n + 1 + m + 1 = n + (m + 1) + 1 by omega] at q
      exact q
    · have lp : ∀ ds : List D, okL ds → ds.length ≤ 16777216 → dpL ds ≤ m → ∀ a b, lcK (lcTurn ⟨call P (n + (m + 1)), 1000⟩ (.tp [(.nm 2), (.nm 3)]) none (cCall 7 [.ref 2, .ref 3]) [2, 3]) [2, 3] (List.zipWith (fun x y => PyData.tuple [x, y]) ds ds) [some (.val a), some (.val b), none, none] = .ok (.own ((List.replicate ds.length true).map .bool)) [some (.val a), some (.val b), none, none] := by
        intro ds ho hl hdp a b
        rw [lcK_pure (fun _ => some (.bool true)) rfl (by rw [List.length_zipWith, lenOk]; omega) ?_ rfl]
        · congr 2
          clear ho hl hdp
          induction ds with
          | nil => rfl
          | cons x xs ih =>
            simp only [List.zipWith_cons_cons, List.length_cons, List.replicate_succ, List.map_cons, ← ih]
            rfl
        · intro x hx
          obtain ⟨y, hy, rfl⟩ : ∃ y, y ∈ ds ∧ x = .tuple [y, y] := by
            clear ho hl hdp
            induction ds with
            | nil => simp at hx
            | cons z zs ih =>
              rw [List.zipWith_cons_cons, List.mem_cons] at hx
              rcases hx with rfl | hx
              · exact ⟨z, List.mem_cons_self .., rfl⟩
              · obtain ⟨y, h, e⟩ := ih hx
                exact ⟨y, List.mem_cons_of_mem _ h, e⟩
          have q := ih y (okL_mem ho hy) (Nat.le_trans (dpL_mem hy) hdp) n (.val y) (.val y) rfl rfl
          rw [show n + m + 1 = n + (m + 1) by omega] at q
          simp only [q, cLenI_ap, lenIK_l, lenIK_t, cSs_eq, cPop_ap, popK0_own, popF_some, popK_ap, sExt_ap, extK0_own, extK2_ap, extD_own, gFld_snap, cFld_eq, cPrp_ap, prpK_ap, noX_ok, cMb_ap, mbK_ap, mbK1_ap, mbK2_ap, rc_ixl, rc_spl, rc_joi, cFst_ap, fK0_ap, evF_nil, evF_cons, fK1_ap, fK2_ap, newK_ret, f_sumt, List.isEmpty_nil, List.isEmpty_cons, not_true_eq_false, not_false_eq_true, r_t, perm_cons, permC_some, List.getElem?_cons_zero, List.getElem?_cons_succ, at_0, at_1, at_2, at_3, at_4, at_last, List.length_map, reduceCtorEq, lcTurn_ap, lcK3_ap, lcK2_ap, lcE_some, evC_none, evC_some, wipe_nil, wipe_cons, rest_nil, rest_cons, fw_next, fw_ret, fw_brk, fw_cont, fw_ite, Nat.reduceAdd, Nat.reduceLeDiff, true_and, and_true, and_self, cRg1_ap, rg1K_f, rg1K_t, cRg2_ap, rg2K_ap, rg2K2_f, rg2K2_t, bind_ok, bind_no, bind_exc, bind_ite, opt_some, opt_none, opt_ite, val_okv, val_oko, val_no, val_exc, val_ite, opn_eq, flow_ok, flow_no, flow_exc, flow_ite, seq_next, seq_ret, seq_brk, seq_cont, seq_exc, seq_no, seq_ite, turn_next, turn_ret, turn_brk, turn_cont, turn_exc, turn_ite, done_next, done_ret, done_exc, done_ite, mask_nil, mask_t, mask_f, orNo_some, orNo_none, getS_z, getS_s, cVar_ap, rdV_val, rdV_own, cMov_ap, rdM_val, rdM_own, dat_val, dat_own, datV_eq, datS_val, datS_own, datR_eq, datSR_val, datSR_own, datSR_rd, cCon_ap, cVal_ap, cValK_ap, c1_ap, c1K_ap, c2_ap, c2K_ap, gO_some, c1V_ap, c2V_ap, c2V0_some, c2VK_ap, c2W_ap, c2WK_ap, bl_some, cBin_eq, cNeg_eq, cNot_eq, cCmp_eq, cIsN_eq, cSub_eq, cSubV_eq, cRev_eq, cRevV_eq, cInV_eq, cIsi_eq, cIsiV_eq, cBiV_ap, cChn_ap, chnKx_ap, chnKy_ap, chnK1_ap, chnK2_ap, cAnd_ap, andK_ap, andK2_ap, cOr_ap, orK_val, orK_own, orK2_ap, cIte_ap, iteK_ap, consK_ap, appK_ap, evs_nil, evs_cons, evsK_ap, evI_nil, evI_one, evIK_ap, evIA_ap, evI_star, evIS_ap, seqO_some, evI_starV, seqD_l, seqD_t, cLst_ap, lstK_ap, cTup_ap, tupK_ap, evO_none, someK_ap, evO_some, evOK_ap, intO_i, cSl_ap, slK1_ap, slK2_ap, slK3_ap, cSlV_ap, slV0_some, slVK1_ap, slVK2_ap, cBi_ap, biK_ap, evA_nil, evA_ref, evA0_some, evA_val, evAK_ap, cCall_ap, callK_ap, callK2_ap, back_ret, back_exc, putBack_nil, putBack_ref, putBack_val, atCall_nil, atCall_ref, consO_some, atC0_some, atCall_val, cCallK_ap, callKK_ap, callKK2_ap, perm_nil, tVal_ap, tvK_ap, tAnd_ap, tAndK_ap, tOr_ap, tOrK_ap, tNot_ap, tNotK_ap, iIt_ap, itK_ap, items_l, items_t, iRng1_ap, r1K_ap, iRng2_ap, r2K1_ap, r2K_ap, iZip_ap, zipK1_ap, zipK_ap, zipD_l, zipD_t, iEnm_ap, enmK_ap, enmD_l, enmD_t, sSeq_ap, keep_tv, keep_to, keep_fv, keep_fo, setF_some, sAsg_ap, asgK_ap, nxF_some, sAsgT_ap, asgTK_ap, bindT_nm, bindT_tt, bindT_tl, bindTs_nil, bndK_some, bindTs_cons, evSs_nil, evSs_cons, evSsK_ap, sPar_ap, parK_ap, setPar_nil, parO_some, setPar_cons, sSetIx_ap, sixK_ap, sixK2_some, sixK3_ap, setDN_some, setD_own, sApp_ap, appK0_own, appK2_ap, appD_own, setF_ite, sExp_ap, expK_ap, sIf_ap, ifK_ap, sFor_ap, forK_ap, sWhile_ap, ftK_some, forTurn_ap, retF_some, sRet_ap, retK_ap, sRetN_ap, sBrk_ap, sCont_ap, sPass_ap, cLc_ap, b_add, b_sub, b_mul, b_fdiv, b_mod, b_pow, b_addL, b_addT, b_mulL, b_mulT, n_neg, q_lt, q_le, q_gt, q_ge, q_eq, q_ne, q_eqb, q_neb, c_lt, c_le, c_gt, c_ge, c_eq, t_b, t_i, t_l, t_t, t_n, g_not, i_n, i_b, i_i, i_s, i_l, i_t, g_isn, g_isnn, gi_n, gi_b, gi_i, gi_s, gi_l, gi_t, f_max, f_min, f_abs, f_int, f_intb, f_lenl, f_lent, f_listl, f_listt, f_tupl, f_tupt, f_sum, f_all, f_any, f_sort, f_sortT, g_atl, g_att, s_l, s_t, r_l, List.set_cons_zero, List.set_cons_succ, List.map_cons, List.map_nil, List.nil_append, List.cons_append, Option.map_some, Option.map_none, decide_eq_true_eq, Bool.not_eq_true', decide_eq_false_iff_not, Bool.false_eq_true, if_true, if_false, ite_self, if_false, rep_z, rep_s, lenOk, List.length_cons, List.length_nil]
      have ra : ∀ k : Nat, (List.replicate k true).all id = true := fun k => by simp
      rw [call_eq m__law_same rfl rfl]
      cases d with
      | list ds =>
        have := lp ds hd.2 hd.1 (by simp only [dpD] at hm; omega)
        have e1 : s1 = .val (.list ds) ∨ s1 = .own ds := by
          cases s1 with
          | val x => cases h1; exact .inl rfl
          | own x => cases h1; exact .inr rfl
          | rd x => cases h1
        have e2 : s2 = .val (.list ds) ∨ s2 = .own ds := by
          cases s2 with
          | val x => cases h2; exact .inl rfl
          | own x => cases h2; exact .inr rfl
          | rd x => cases h2
        rcases e1 with rfl | rfl <;> rcases e2 with rfl | rfl <;>
        simp only [m__law_same, List.any_cons, List.any_nil, isTy, Bool.or_false, beq_self_eq_true, Bool.not_true, Bool.not_false, Bool.true_or, Bool.or_true, Bool.false_or, decide_true, ra, this, show P.fuel = 1000 from rfl, cLenI_ap, lenIK_l, lenIK_t, cSs_eq, cPop_ap, popK0_own, popF_some, popK_ap, sExt_ap, extK0_own, extK2_ap, extD_own, gFld_snap, cFld_eq, cPrp_ap, prpK_ap, noX_ok, cMb_ap, mbK_ap, mbK1_ap, mbK2_ap, rc_ixl, rc_spl, rc_joi, cFst_ap, fK0_ap, evF_nil, evF_cons, fK1_ap, fK2_ap, newK_ret, f_sumt, List.isEmpty_nil, List.isEmpty_cons, not_true_eq_false, not_false_eq_true, r_t, perm_cons, permC_some, List.getElem?_cons_zero, List.getElem?_cons_succ, at_0, at_1, at_2, at_3, at_4, at_last, List.length_map, reduceCtorEq, lcTurn_ap, lcK3_ap, lcK2_ap, lcE_some, evC_none, evC_some, wipe_nil, wipe_cons, rest_nil, rest_cons, fw_next, fw_ret, fw_brk, fw_cont, fw_ite, Nat.reduceAdd, Nat.reduceLeDiff, true_and, and_true, and_self, cRg1_ap, rg1K_f, rg1K_t, cRg2_ap, rg2K_ap, rg2K2_f, rg2K2_t, bind_ok, bind_no, bind_exc, bind_ite, opt_some, opt_none, opt_ite, val_okv, val_oko, val_no, val_exc, val_ite, opn_eq, flow_ok, flow_no, flow_exc, flow_ite, seq_next, seq_ret, seq_brk, seq_cont, seq_exc, seq_no, seq_ite, turn_next, turn_ret, turn_brk, turn_cont, turn_exc, turn_ite, done_next, done_ret, done_exc, done_ite, mask_nil, mask_t, mask_f, orNo_some, orNo_none, getS_z, getS_s, cVar_ap, rdV_val, rdV_own, cMov_ap, rdM_val, rdM_own, dat_val, dat_own, datV_eq, datS_val, datS_own, datR_eq, datSR_val, datSR_own, datSR_rd, cCon_ap, cVal_ap, cValK_ap, c1_ap, c1K_ap, c2_ap, c2K_ap, gO_some, c1V_ap, c2V_ap, c2V0_some, c2VK_ap, c2W_ap, c2WK_ap, bl_some, cBin_eq, cNeg_eq, cNot_eq, cCmp_eq, cIsN_eq, cSub_eq, cSubV_eq, cRev_eq, cRevV_eq, cInV_eq, cIsi_eq, cIsiV_eq, cBiV_ap, cChn_ap, chnKx_ap, chnKy_ap, chnK1_ap, chnK2_ap, cAnd_ap, andK_ap, andK2_ap, cOr_ap, orK_val, orK_own, orK2_ap, cIte_ap, iteK_ap, consK_ap, appK_ap, evs_nil, evs_cons, evsK_ap, evI_nil, evI_one, evIK_ap, evIA_ap, evI_star, evIS_ap, seqO_some, evI_starV, seqD_l, seqD_t, cLst_ap, lstK_ap, cTup_ap, tupK_ap, evO_none, someK_ap, evO_some, evOK_ap, intO_i, cSl_ap, slK1_ap, slK2_ap, slK3_ap, cSlV_ap, slV0_some, slVK1_ap, slVK2_ap, cBi_ap, biK_ap, evA_nil, evA_ref, evA0_some, evA_val, evAK_ap, cCall_ap, callK_ap, callK2_ap, back_ret, back_exc, putBack_nil, putBack_ref, putBack_val, atCall_nil, atCall_ref, consO_some, atC0_some, atCall_val, cCallK_ap, callKK_ap, callKK2_ap, perm_nil, tVal_ap, tvK_ap, tAnd_ap, tAndK_ap, tOr_ap, tOrK_ap, tNot_ap, tNotK_ap, iIt_ap, itK_ap, items_l, items_t, iRng1_ap, r1K_ap, iRng2_ap, r2K1_ap, r2K_ap, iZip_ap, zipK1_ap, zipK_ap, zipD_l, zipD_t, iEnm_ap, enmK_ap, enmD_l, enmD_t, sSeq_ap, keep_tv, keep_to, keep_fv, keep_fo, setF_some, sAsg_ap, asgK_ap, nxF_some, sAsgT_ap, asgTK_ap, bindT_nm, bindT_tt, bindT_tl, bindTs_nil, bndK_some, bindTs_cons, evSs_nil, evSs_cons, evSsK_ap, sPar_ap, parK_ap, setPar_nil, parO_some, setPar_cons, sSetIx_ap, sixK_ap, sixK2_some, sixK3_ap, setDN_some, setD_own, sApp_ap, appK0_own, appK2_ap, appD_own, setF_ite, sExp_ap, expK_ap, sIf_ap, ifK_ap, sFor_ap, forK_ap, sWhile_ap, ftK_some, forTurn_ap, retF_some, sRet_ap, retK_ap, sRetN_ap, sBrk_ap, sCont_ap, sPass_ap, cLc_ap, b_add, b_sub, b_mul, b_fdiv, b_mod, b_pow, b_addL, b_addT, b_mulL, b_mulT, n_neg, q_lt, q_le, q_gt, q_ge, q_eq, q_ne, q_eqb, q_neb, c_lt, c_le, c_gt, c_ge, c_eq, t_b, t_i, t_l, t_t, t_n, g_not, i_n, i_b, i_i, i_s, i_l, i_t, g_isn, g_isnn, gi_n, gi_b, gi_i, gi_s, gi_l, gi_t, f_max, f_min, f_abs, f_int, f_intb, f_lenl, f_lent, f_listl, f_listt, f_tupl, f_tupt, f_sum, f_all, f_any, f_sort, f_sortT, g_atl, g_att, s_l, s_t, r_l, List.set_cons_zero, List.set_cons_succ, List.map_cons, List.map_nil, List.nil_append, List.cons_append, Option.map_some, Option.map_none, decide_eq_true_eq, Bool.not_eq_true', decide_eq_false_iff_not, Bool.false_eq_true, if_true, if_false, ite_self, if_false, rep_z, rep_s, lenOk, List.length_cons, List.length_nil]
      | tuple ds =>
        have := lp ds hd.2 hd.1 (by simp only [dpD] at hm; omega)
        have e1 : s1 = .val (.tuple ds) := by
          cases s1 with
          | val x => cases h1; rfl
          | own x => cases h1
          | rd x => cases h1
        have e2 : s2 = .val (.tuple ds) := by
          cases s2 with
          | val x => cases h2; rfl
          | own x => cases h2
          | rd x => cases h2
        subst e1 e2
        simp only [m__law_same, List.any_cons, List.any_nil, isTy, Bool.or_false, beq_self_eq_true, Bool.not_true, Bool.not_false, Bool.true_or, Bool.or_true, Bool.false_or, decide_true, ra, this, show P.fuel = 1000 from rfl, cLenI_ap, lenIK_l, lenIK_t, cSs_eq, cPop_ap, popK0_own, popF_some, popK_ap, sExt_ap, extK0_own, extK2_ap, extD_own, gFld_snap, cFld_eq, cPrp_ap, prpK_ap, noX_ok, cMb_ap, mbK_ap, mbK1_ap, mbK2_ap, rc_ixl, rc_spl, rc_joi, cFst_ap, fK0_ap, evF_nil, evF_cons, fK1_ap, fK2_ap, newK_ret, f_sumt, List.isEmpty_nil, List.isEmpty_cons, not_true_eq_false, not_false_eq_true, r_t, perm_cons, permC_some, List.getElem?_cons_zero, List.getElem?_cons_succ, at_0, at_1, at_2, at_3, at_4, at_last, List.length_map, reduceCtorEq, lcTurn_ap, lcK3_ap, lcK2_ap, lcE_some, evC_none, evC_some, wipe_nil, wipe_cons, rest_nil, rest_cons, fw_next, fw_ret, fw_brk, fw_cont, fw_ite, Nat.reduceAdd, Nat.reduceLeDiff, true_and, and_true, and_self, cRg1_ap, rg1K_f, rg1K_t, cRg2_ap, rg2K_ap, rg2K2_f, rg2K2_t, bind_ok, bind_no, bind_exc, bind_ite, opt_some, opt_none, opt_ite, val_okv, val_oko, val_no, val_exc, val_ite, opn_eq, flow_ok, flow_no, flow_exc, flow_ite, seq_next, seq_ret, seq_brk, seq_cont, seq_exc, seq_no, seq_ite, turn_next, turn_ret, turn_brk, turn_cont, turn_exc, turn_ite, done_next, done_ret, done_exc, done_ite, mask_nil, mask_t, mask_f, orNo_some, orNo_none, getS_z, getS_s, cVar_ap, rdV_val, rdV_own, cMov_ap, rdM_val, rdM_own, dat_val, dat_own, datV_eq, datS_val, datS_own, datR_eq, datSR_val, datSR_own, datSR_rd, cCon_ap, cVal_ap, cValK_ap, c1_ap, c1K_ap, c2_ap, c2K_ap, gO_some, c1V_ap, c2V_ap, c2V0_some, c2VK_ap, c2W_ap, c2WK_ap, bl_some, cBin_eq, cNeg_eq, cNot_eq, cCmp_eq, cIsN_eq, cSub_eq, cSubV_eq, cRev_eq, cRevV_eq, cInV_eq, cIsi_eq, cIsiV_eq, cBiV_ap, cChn_ap, chnKx_ap, chnKy_ap, chnK1_ap, chnK2_ap, cAnd_ap, andK_ap, andK2_ap, cOr_ap, orK_val, orK_own, orK2_ap, cIte_ap, iteK_ap, consK_ap, appK_ap, evs_nil, evs_cons, evsK_ap, evI_nil, evI_one, evIK_ap, evIA_ap, evI_star, evIS_ap, seqO_some, evI_starV, seqD_l, seqD_t, cLst_ap, lstK_ap, cTup_ap, tupK_ap, evO_none, someK_ap, evO_some, evOK_ap, intO_i, cSl_ap, slK1_ap, slK2_ap, slK3_ap, cSlV_ap, slV0_some, slVK1_ap, slVK2_ap, cBi_ap, biK_ap, evA_nil, evA_ref, evA0_some, evA_val, evAK_ap, cCall_ap, callK_ap, callK2_ap, back_ret, back_exc, putBack_nil, putBack_ref, putBack_val, atCall_nil, atCall_ref, consO_some, atC0_some, atCall_val, cCallK_ap, callKK_ap, callKK2_ap, perm_nil, tVal_ap, tvK_ap, tAnd_ap, tAndK_ap, tOr_ap, tOrK_ap, tNot_ap, tNotK_ap, iIt_ap, itK_ap, items_l, items_t, iRng1_ap, r1K_ap, iRng2_ap, r2K1_ap, r2K_ap, iZip_ap, zipK1_ap, zipK_ap, zipD_l, zipD_t, iEnm_ap, enmK_ap, enmD_l, enmD_t, sSeq_ap, keep_tv, keep_to, keep_fv, keep_fo, setF_some, sAsg_ap, asgK_ap, nxF_some, sAsgT_ap, asgTK_ap, bindT_nm, bindT_tt, bindT_tl, bindTs_nil, bndK_some, bindTs_cons, evSs_nil, evSs_cons, evSsK_ap, sPar_ap, parK_ap, setPar_nil, parO_some, setPar_cons, sSetIx_ap, sixK_ap, sixK2_some, sixK3_ap, setDN_some, setD_own, sApp_ap, appK0_own, appK2_ap, appD_own, setF_ite, sExp_ap, expK_ap, sIf_ap, ifK_ap, sFor_ap, forK_ap, sWhile_ap, ftK_some, forTurn_ap, retF_some, sRet_ap, retK_ap, sRetN_ap, sBrk_ap, sCont_ap, sPass_ap, cLc_ap, b_add, b_sub, b_mul, b_fdiv, b_mod, b_pow, b_addL, b_addT, b_mulL, b_mulT, n_neg, q_lt, q_le, q_gt, q_ge, q_eq, q_ne, q_eqb, q_neb, c_lt, c_le, c_gt, c_ge, c_eq, t_b, t_i, t_l, t_t, t_n, g_not, i_n, i_b, i_i, i_s, i_l, i_t, g_isn, g_isnn, gi_n, gi_b, gi_i, gi_s, gi_l, gi_t, f_max, f_min, f_abs, f_int, f_intb, f_lenl, f_lent, f_listl, f_listt, f_tupl, f_tupt, f_sum, f_all, f_any, f_sort, f_sortT, g_atl, g_att, s_l, s_t, r_l, List.set_cons_zero, List.set_cons_succ, List.map_cons, List.map_nil, List.nil_append, List.cons_append, Option.map_some, Option.map_none, decide_eq_true_eq, Bool.not_eq_true', decide_eq_false_iff_not, Bool.false_eq_true, if_true, if_false, ite_self, if_false, rep_z, rep_s, lenOk, List.length_cons, List.length_nil]
      | _ => simp [dpD] at hz
theorem same8 (n : Nat) {d : D} (h : okD d) (h2 : dpD d ≤ 7) (s1 s2 : Ev.Slot) (h3 : s1.dat = some d) (h4 : s2.dat = some d) : call P (n + 8) 7 [s1, s2] = .ret (.val (.bool true)) [some (.val d), some (.val d)] :=
  same_ok 7 d h h2 n s1 s2 h3 h4
/-! texts -/
theorem items_S (l : List Nat) (h : l.length ≤ sizeLine) : itemsD (.str (S l)) = some (l.map fun c => .str (S [c])) := by
  show (if decide ((S l).length ≤ sizeLine) = true then some ((cs (S l)).map fun c => PyData.str (S [c])) else none) = _
  rw [S_len, if_pos (decide_eq_true h), cs_S]
theorem at0_S (c : Nat) (l : List Nat) (h : (c :: l).length ≤ sizeLine) : gAt (.str (S (c :: l))) (.int 0) = some (.val (.str (S [c]))) := by
  show (if decide ((S (c :: l)).length ≤ sizeLine) = true then (atL (cs (S (c :: l))) 0).map fun c => PyData.str (S [c]) else none).map Ev.Slot.val = _
  rw [S_len, if_pos (decide_eq_true h), cs_S, at_0]; rfl
theorem tail_S (l : List Nat) (h : l.length ≤ sizeLine) : slD (.str (S l)) (some 1) none = some (.val (.str (S (l.drop 1)))) := by
  show (if decide ((S l).length ≤ sizeLine) = true then some (Ev.Slot.val (.str (S (cutD (cs (S l)) (some 1) none)))) else none) = _
  rw [S_len, if_pos (decide_eq_true h), cs_S, cut_from (by omega)]; rfl
theorem in_digs (c : Nat) : gCmp .isin (.str (S [c])) (.str (S [48, 49, 50, 51, 52, 53, 54, 55, 56, 57])) = some (.val (.bool (isDig c))) := by
  show (some (decide (c ∈ [48, 49, 50, 51, 52, 53, 54, 55, 56, 57]))).map (fun b => Ev.Slot.val (.bool b)) = _
  have : decide (c ∈ [48, 49, 50, 51, 52, 53, 54, 55, 56, 57]) = isDig c := by
    unfold isDig
    rw [← Bool.decide_and, decide_eq_decide]
    simp only [List.mem_cons, List.not_mem_nil, or_false]
    omega
  rw [this]; rfl
theorem int_S (l : List Nat) (h1 : l ≠ []) (h2 : l.all isDig = true) (h3 : l.length ≤ 640) : biD .int [.str (S l)] = some (.val (.int (numOf l : Nat))) := by
  show (intOf (S l)).map (fun n => Ev.Slot.val (.int n)) = _
  unfold intOf
  rw [cs_S, S_len, h2, decide_eq_true h3]
  cases l with
  | nil => exact (h1 rfl).elim
  | cons c l => rfl
def optI : Option Int → D
  | some i => I i
  | none => .none
theorem q_eqS {a b : List Nat} : gCmp .eq (.str (S a)) (.str (S b)) = some (.val (.bool (decide (a = b)))) := by rw [q_eqs, S_beq]
theorem q_neS {a b : List Nat} : gCmp .ne (.str (S a)) (.str (S b)) = some (.val (.bool (!decide (a = b)))) := by rw [q_nes, S_beq]
theorem number_ok (n : Nat) (l : List Nat) (h : l.length ≤ 640) : call P (n + 1) 0 [.val (.str (S l))] = .ret (.val (optI (numZ l))) [none] := by
  have h2 : l.length ≤ sizeLine := by rw [lenOk]; omega
  have lc : lcK (lcTurn ⟨call P n, P.fuel⟩ (.nm 1) none (c2 (gCmp .isin) (cVar 1) (cCon (.str (S [48, 49, 50, 51, 52, 53, 54, 55, 56, 57])))) [1]) [1] (l.map fun c => .str (S [c])) [some (.val (.str (S l))), none] = .ok (.own ((l.map isDig).map .bool)) [some (.val (.str (S l))), none] := by
    rw [List.map_map]
    exact lcK_map (fun c => PyData.str (S [c])) l _ rfl h2 (fun c _ => by simp only [in_digs, cLenI_ap, lenIK_l, lenIK_t, cSs_eq, cPop_ap, popK0_own, popF_some, popK_ap, sExt_ap, extK0_own, extK2_ap, extD_own, gFld_snap, cFld_eq, cPrp_ap, prpK_ap, noX_ok, cMb_ap, mbK_ap, mbK1_ap, mbK2_ap, rc_ixl, rc_spl, rc_joi, cFst_ap, fK0_ap, evF_nil, evF_cons, fK1_ap, fK2_ap, newK_ret, f_sumt, List.isEmpty_nil, List.isEmpty_cons, not_true_eq_false, not_false_eq_true, r_t, perm_cons, permC_some, List.getElem?_cons_zero, List.getElem?_cons_succ, at_0, at_1, at_2, at_3, at_4, at_last, List.length_map, reduceCtorEq, lcTurn_ap, lcK3_ap, lcK2_ap, lcE_some, evC_none, evC_some, wipe_nil, wipe_cons, rest_nil, rest_cons, fw_next, fw_ret, fw_brk, fw_cont, fw_ite, Nat.reduceAdd, Nat.reduceLeDiff, true_and, and_true, and_self, cRg1_ap, rg1K_f, rg1K_t, cRg2_ap, rg2K_ap, rg2K2_f, rg2K2_t, bind_ok, bind_no, bind_exc, bind_ite, opt_some, opt_none, opt_ite, val_okv, val_oko, val_no, val_exc, val_ite, opn_eq, flow_ok, flow_no, flow_exc, flow_ite, seq_next, seq_ret, seq_brk, seq_cont, seq_exc, seq_no, seq_ite, turn_next, turn_ret, turn_brk, turn_cont, turn_exc, turn_ite, done_next, done_ret, done_exc, done_ite, mask_nil, mask_t, mask_f, orNo_some, orNo_none, getS_z, getS_s, cVar_ap, rdV_val, rdV_own, cMov_ap, rdM_val, rdM_own, dat_val, dat_own, datV_eq, datS_val, datS_own, datR_eq, datSR_val, datSR_own, datSR_rd, cCon_ap, cVal_ap, cValK_ap, c1_ap, c1K_ap, c2_ap, c2K_ap, gO_some, c1V_ap, c2V_ap, c2V0_some, c2VK_ap, c2W_ap, c2WK_ap, bl_some, cBin_eq, cNeg_eq, cNot_eq, cCmp_eq, cIsN_eq, cSub_eq, cSubV_eq, cRev_eq, cRevV_eq, cInV_eq, cIsi_eq, cIsiV_eq, cBiV_ap, cChn_ap, chnKx_ap, chnKy_ap, chnK1_ap, chnK2_ap, cAnd_ap, andK_ap, andK2_ap, cOr_ap, orK_val, orK_own, orK2_ap, cIte_ap, iteK_ap, consK_ap, appK_ap, evs_nil, evs_cons, evsK_ap, evI_nil, evI_one, evIK_ap, evIA_ap, evI_star, evIS_ap, seqO_some, evI_starV, seqD_l, seqD_t, cLst_ap, lstK_ap, cTup_ap, tupK_ap, evO_none, someK_ap, evO_some, evOK_ap, intO_i, cSl_ap, slK1_ap, slK2_ap, slK3_ap, cSlV_ap, slV0_some, slVK1_ap, slVK2_ap, cBi_ap, biK_ap, evA_nil, evA_ref, evA0_some, evA_val, evAK_ap, cCall_ap, callK_ap, callK2_ap, back_ret, back_exc, putBack_nil, putBack_ref, putBack_val, atCall_nil, atCall_ref, consO_some, atC0_some, atCall_val, cCallK_ap, callKK_ap, callKK2_ap, perm_nil, tVal_ap, tvK_ap, tAnd_ap, tAndK_ap, tOr_ap, tOrK_ap, tNot_ap, tNotK_ap, iIt_ap, itK_ap, items_l, items_t, iRng1_ap, r1K_ap, iRng2_ap, r2K1_ap, r2K_ap, iZip_ap, zipK1_ap, zipK_ap, zipD_l, zipD_t, iEnm_ap, enmK_ap, enmD_l, enmD_t, sSeq_ap, keep_tv, keep_to, keep_fv, keep_fo, setF_some, sAsg_ap, asgK_ap, nxF_some, sAsgT_ap, asgTK_ap, bindT_nm, bindT_tt, bindT_tl, bindTs_nil, bndK_some, bindTs_cons, evSs_nil, evSs_cons, evSsK_ap, sPar_ap, parK_ap, setPar_nil, parO_some, setPar_cons, sSetIx_ap, sixK_ap, sixK2_some, sixK3_ap, setDN_some, setD_own, sApp_ap, appK0_own, appK2_ap, appD_own, setF_ite, sExp_ap, expK_ap, sIf_ap, ifK_ap, sFor_ap, forK_ap, sWhile_ap, ftK_some, forTurn_ap, retF_some, sRet_ap, retK_ap, sRetN_ap, sBrk_ap, sCont_ap, sPass_ap, cLc_ap, b_add, b_sub, b_mul, b_fdiv, b_mod, b_pow, b_addL, b_addT, b_mulL, b_mulT, n_neg, q_lt, q_le, q_gt, q_ge, q_eq, q_ne, q_eqb, q_neb, c_lt, c_le, c_gt, c_ge, c_eq, t_b, t_i, t_l, t_t, t_n, g_not, i_n, i_b, i_i, i_s, i_l, i_t, g_isn, g_isnn, gi_n, gi_b, gi_i, gi_s, gi_l, gi_t, f_max, f_min, f_abs, f_int, f_intb, f_lenl, f_lent, f_listl, f_listt, f_tupl, f_tupt, f_sum, f_all, f_any, f_sort, f_sortT, g_atl, g_att, s_l, s_t, r_l, List.set_cons_zero, List.set_cons_succ, List.map_cons, List.map_nil, List.nil_append, List.cons_append, Option.map_some, Option.map_none, decide_eq_true_eq, Bool.not_eq_true', decide_eq_false_iff_not, Bool.false_eq_true, if_true, if_false, ite_self, if_false, rep_z, rep_s, lenOk, List.length_cons, List.length_nil]; rfl) rfl
  have ba : biD .all [.list ((l.map isDig).map .bool)] = some (.val (.bool (l.all isDig))) := by
    show (boolsD _).map (fun l => Ev.Slot.val (.bool (l.all id))) = _
    rw [bools_map]
    show some (Ev.Slot.val (.bool ((l.map isDig).all id))) = _
    rw [List.all_map]; rfl
  rw [call_eq m_number_in rfl rfl]
  unfold numZ
  have its := items_S l h2
  generalize l.map (fun c => PyData.str (S [c])) = M at *
  generalize (l.map isDig).map PyData.bool = MB at *
  cases l with
  | nil => simp only [m_number_in, q_eqS, decide_true, true_or, cLenI_ap, lenIK_l, lenIK_t, cSs_eq, cPop_ap, popK0_own, popF_some, popK_ap, sExt_ap, extK0_own, extK2_ap, extD_own, gFld_snap, cFld_eq, cPrp_ap, prpK_ap, noX_ok, cMb_ap, mbK_ap, mbK1_ap, mbK2_ap, rc_ixl, rc_spl, rc_joi, cFst_ap, fK0_ap, evF_nil, evF_cons, fK1_ap, fK2_ap, newK_ret, f_sumt, List.isEmpty_nil, List.isEmpty_cons, not_true_eq_false, not_false_eq_true, r_t, perm_cons, permC_some, List.getElem?_cons_zero, List.getElem?_cons_succ, at_0, at_1, at_2, at_3, at_4, at_last, List.length_map, reduceCtorEq, lcTurn_ap, lcK3_ap, lcK2_ap, lcE_some, evC_none, evC_some, wipe_nil, wipe_cons, rest_nil, rest_cons, fw_next, fw_ret, fw_brk, fw_cont, fw_ite, Nat.reduceAdd, Nat.reduceLeDiff, true_and, and_true, and_self, cRg1_ap, rg1K_f, rg1K_t, cRg2_ap, rg2K_ap, rg2K2_f, rg2K2_t, bind_ok, bind_no, bind_exc, bind_ite, opt_some, opt_none, opt_ite, val_okv, val_oko, val_no, val_exc, val_ite, opn_eq, flow_ok, flow_no, flow_exc, flow_ite, seq_next, seq_ret, seq_brk, seq_cont, seq_exc, seq_no, seq_ite, turn_next, turn_ret, turn_brk, turn_cont, turn_exc, turn_ite, done_next, done_ret, done_exc, done_ite, mask_nil, mask_t, mask_f, orNo_some, orNo_none, getS_z, getS_s, cVar_ap, rdV_val, rdV_own, cMov_ap, rdM_val, rdM_own, dat_val, dat_own, datV_eq, datS_val, datS_own, datR_eq, datSR_val, datSR_own, datSR_rd, cCon_ap, cVal_ap, cValK_ap, c1_ap, c1K_ap, c2_ap, c2K_ap, gO_some, c1V_ap, c2V_ap, c2V0_some, c2VK_ap, c2W_ap, c2WK_ap, bl_some, cBin_eq, cNeg_eq, cNot_eq, cCmp_eq, cIsN_eq, cSub_eq, cSubV_eq, cRev_eq, cRevV_eq, cInV_eq, cIsi_eq, cIsiV_eq, cBiV_ap, cChn_ap, chnKx_ap, chnKy_ap, chnK1_ap, chnK2_ap, cAnd_ap, andK_ap, andK2_ap, cOr_ap, orK_val, orK_own, orK2_ap, cIte_ap, iteK_ap, consK_ap, appK_ap, evs_nil, evs_cons, evsK_ap, evI_nil, evI_one, evIK_ap, evIA_ap, evI_star, evIS_ap, seqO_some, evI_starV, seqD_l, seqD_t, cLst_ap, lstK_ap, cTup_ap, tupK_ap, evO_none, someK_ap, evO_some, evOK_ap, intO_i, cSl_ap, slK1_ap, slK2_ap, slK3_ap, cSlV_ap, slV0_some, slVK1_ap, slVK2_ap, cBi_ap, biK_ap, evA_nil, evA_ref, evA0_some, evA_val, evAK_ap, cCall_ap, callK_ap, callK2_ap, back_ret, back_exc, putBack_nil, putBack_ref, putBack_val, atCall_nil, atCall_ref, consO_some, atC0_some, atCall_val, cCallK_ap, callKK_ap, callKK2_ap, perm_nil, tVal_ap, tvK_ap, tAnd_ap, tAndK_ap, tOr_ap, tOrK_ap, tNot_ap, tNotK_ap, iIt_ap, itK_ap, items_l, items_t, iRng1_ap, r1K_ap, iRng2_ap, r2K1_ap, r2K_ap, iZip_ap, zipK1_ap, zipK_ap, zipD_l, zipD_t, iEnm_ap, enmK_ap, enmD_l, enmD_t, sSeq_ap, keep_tv, keep_to, keep_fv, keep_fo, setF_some, sAsg_ap, asgK_ap, nxF_some, sAsgT_ap, asgTK_ap, bindT_nm, bindT_tt, bindT_tl, bindTs_nil, bndK_some, bindTs_cons, evSs_nil, evSs_cons, evSsK_ap, sPar_ap, parK_ap, setPar_nil, parO_some, setPar_cons, sSetIx_ap, sixK_ap, sixK2_some, sixK3_ap, setDN_some, setD_own, sApp_ap, appK0_own, appK2_ap, appD_own, setF_ite, sExp_ap, expK_ap, sIf_ap, ifK_ap, sFor_ap, forK_ap, sWhile_ap, ftK_some, forTurn_ap, retF_some, sRet_ap, retK_ap, sRetN_ap, sBrk_ap, sCont_ap, sPass_ap, cLc_ap, b_add, b_sub, b_mul, b_fdiv, b_mod, b_pow, b_addL, b_addT, b_mulL, b_mulT, n_neg, q_lt, q_le, q_gt, q_ge, q_eq, q_ne, q_eqb, q_neb, c_lt, c_le, c_gt, c_ge, c_eq, t_b, t_i, t_l, t_t, t_n, g_not, i_n, i_b, i_i, i_s, i_l, i_t, g_isn, g_isnn, gi_n, gi_b, gi_i, gi_s, gi_l, gi_t, f_max, f_min, f_abs, f_int, f_intb, f_lenl, f_lent, f_listl, f_listt, f_tupl, f_tupt, f_sum, f_all, f_any, f_sort, f_sortT, g_atl, g_att, s_l, s_t, r_l, List.set_cons_zero, List.set_cons_succ, List.map_cons, List.map_nil, List.nil_append, List.cons_append, Option.map_some, Option.map_none, decide_eq_true_eq, Bool.not_eq_true', decide_eq_false_iff_not, Bool.false_eq_true, if_true, if_false, ite_self, if_false, rep_z, rep_s, lenOk, List.length_cons, List.length_nil]; rfl
  | cons c t =>
    have a0 := at0_S c t h2
    have nn : ¬ (c :: t = []) := by simp
    cases hd : (c :: t).all isDig with
    | false =>
      rw [hd] at ba
      simp only [m_number_in, q_eqS, nn, decide_false, its, lc, ba, Bool.not_false, false_or, true_or, cLenI_ap, lenIK_l, lenIK_t, cSs_eq, cPop_ap, popK0_own, popF_some, popK_ap, sExt_ap, extK0_own, extK2_ap, extD_own, gFld_snap, cFld_eq, cPrp_ap, prpK_ap, noX_ok, cMb_ap, mbK_ap, mbK1_ap, mbK2_ap, rc_ixl, rc_spl, rc_joi, cFst_ap, fK0_ap, evF_nil, evF_cons, fK1_ap, fK2_ap, newK_ret, f_sumt, List.isEmpty_nil, List.isEmpty_cons, not_true_eq_false, not_false_eq_true, r_t, perm_cons, permC_some, List.getElem?_cons_zero, List.getElem?_cons_succ, at_0, at_1, at_2, at_3, at_4, at_last, List.length_map, reduceCtorEq, lcTurn_ap, lcK3_ap, lcK2_ap, lcE_some, evC_none, evC_some, wipe_nil, wipe_cons, rest_nil, rest_cons, fw_next, fw_ret, fw_brk, fw_cont, fw_ite, Nat.reduceAdd, Nat.reduceLeDiff, true_and, and_true, and_self, cRg1_ap, rg1K_f, rg1K_t, cRg2_ap, rg2K_ap, rg2K2_f, rg2K2_t, bind_ok, bind_no, bind_exc, bind_ite, opt_some, opt_none, opt_ite, val_okv, val_oko, val_no, val_exc, val_ite, opn_eq, flow_ok, flow_no, flow_exc, flow_ite, seq_next, seq_ret, seq_brk, seq_cont, seq_exc, seq_no, seq_ite, turn_next, turn_ret, turn_brk, turn_cont, turn_exc, turn_ite, done_next, done_ret, done_exc, done_ite, mask_nil, mask_t, mask_f, orNo_some, orNo_none, getS_z, getS_s, cVar_ap, rdV_val, rdV_own, cMov_ap, rdM_val, rdM_own, dat_val, dat_own, datV_eq, datS_val, datS_own, datR_eq, datSR_val, datSR_own, datSR_rd, cCon_ap, cVal_ap, cValK_ap, c1_ap, c1K_ap, c2_ap, c2K_ap, gO_some, c1V_ap, c2V_ap, c2V0_some, c2VK_ap, c2W_ap, c2WK_ap, bl_some, cBin_eq, cNeg_eq, cNot_eq, cCmp_eq, cIsN_eq, cSub_eq, cSubV_eq, cRev_eq, cRevV_eq, cInV_eq, cIsi_eq, cIsiV_eq, cBiV_ap, cChn_ap, chnKx_ap, chnKy_ap, chnK1_ap, chnK2_ap, cAnd_ap, andK_ap, andK2_ap, cOr_ap, orK_val, orK_own, orK2_ap, cIte_ap, iteK_ap, consK_ap, appK_ap, evs_nil, evs_cons, evsK_ap, evI_nil, evI_one, evIK_ap, evIA_ap, evI_star, evIS_ap, seqO_some, evI_starV, seqD_l, seqD_t, cLst_ap, lstK_ap, cTup_ap, tupK_ap, evO_none, someK_ap, evO_some, evOK_ap, intO_i, cSl_ap, slK1_ap, slK2_ap, slK3_ap, cSlV_ap, slV0_some, slVK1_ap, slVK2_ap, cBi_ap, biK_ap, evA_nil, evA_ref, evA0_some, evA_val, evAK_ap, cCall_ap, callK_ap, callK2_ap, back_ret, back_exc, putBack_nil, putBack_ref, putBack_val, atCall_nil, atCall_ref, consO_some, atC0_some, atCall_val, cCallK_ap, callKK_ap, callKK2_ap, perm_nil, tVal_ap, tvK_ap, tAnd_ap, tAndK_ap, tOr_ap, tOrK_ap, tNot_ap, tNotK_ap, iIt_ap, itK_ap, items_l, items_t, iRng1_ap, r1K_ap, iRng2_ap, r2K1_ap, r2K_ap, iZip_ap, zipK1_ap, zipK_ap, zipD_l, zipD_t, iEnm_ap, enmK_ap, enmD_l, enmD_t, sSeq_ap, keep_tv, keep_to, keep_fv, keep_fo, setF_some, sAsg_ap, asgK_ap, nxF_some, sAsgT_ap, asgTK_ap, bindT_nm, bindT_tt, bindT_tl, bindTs_nil, bndK_some, bindTs_cons, evSs_nil, evSs_cons, evSsK_ap, sPar_ap, parK_ap, setPar_nil, parO_some, setPar_cons, sSetIx_ap, sixK_ap, sixK2_some, sixK3_ap, setDN_some, setD_own, sApp_ap, appK0_own, appK2_ap, appD_own, setF_ite, sExp_ap, expK_ap, sIf_ap, ifK_ap, sFor_ap, forK_ap, sWhile_ap, ftK_some, forTurn_ap, retF_some, sRet_ap, retK_ap, sRetN_ap, sBrk_ap, sCont_ap, sPass_ap, cLc_ap, b_add, b_sub, b_mul, b_fdiv, b_mod, b_pow, b_addL, b_addT, b_mulL, b_mulT, n_neg, q_lt, q_le, q_gt, q_ge, q_eq, q_ne, q_eqb, q_neb, c_lt, c_le, c_gt, c_ge, c_eq, t_b, t_i, t_l, t_t, t_n, g_not, i_n, i_b, i_i, i_s, i_l, i_t, g_isn, g_isnn, gi_n, gi_b, gi_i, gi_s, gi_l, gi_t, f_max, f_min, f_abs, f_int, f_intb, f_lenl, f_lent, f_listl, f_listt, f_tupl, f_tupt, f_sum, f_all, f_any, f_sort, f_sortT, g_atl, g_att, s_l, s_t, r_l, List.set_cons_zero, List.set_cons_succ, List.map_cons, List.map_nil, List.nil_append, List.cons_append, Option.map_some, Option.map_none, decide_eq_true_eq, Bool.not_eq_true', decide_eq_false_iff_not, Bool.false_eq_true, if_true, if_false, ite_self, if_false, rep_z, rep_s, lenOk, List.length_cons, List.length_nil]; rfl
    | true =>
      rw [hd] at ba
      have bi := int_S (c :: t) (by simp) hd h
      by_cases h8 : c = 48
      · by_cases ht : c :: t = [48]
        · have hh : ¬ (c :: t = [] ∨ (true : Bool) = false ∨ (c :: t).head? = some 48 ∧ c :: t ≠ [48]) := by simp [ht]
          rw [if_neg hh]
          have h8' : ([c] = [48]) := by rw [h8]
          simp only [m_number_in, q_eqS, q_neS, nn, h8', ht, a0, its, lc, ba, bi, decide_true, decide_false, Bool.not_true, Bool.not_false, cLenI_ap, lenIK_l, lenIK_t, cSs_eq, cPop_ap, popK0_own, popF_some, popK_ap, sExt_ap, extK0_own, extK2_ap, extD_own, gFld_snap, cFld_eq, cPrp_ap, prpK_ap, noX_ok, cMb_ap, mbK_ap, mbK1_ap, mbK2_ap, rc_ixl, rc_spl, rc_joi, cFst_ap, fK0_ap, evF_nil, evF_cons, fK1_ap, fK2_ap, newK_ret, f_sumt, List.isEmpty_nil, List.isEmpty_cons, not_true_eq_false, not_false_eq_true, r_t, perm_cons, permC_some, List.getElem?_cons_zero, List.getElem?_cons_succ, at_0, at_1, at_2, at_3, at_4, at_last, List.length_map, reduceCtorEq, lcTurn_ap, lcK3_ap, lcK2_ap, lcE_some, evC_none, evC_some, wipe_nil, wipe_cons, rest_nil, rest_cons, fw_next, fw_ret, fw_brk, fw_cont, fw_ite, Nat.reduceAdd, Nat.reduceLeDiff, true_and, and_true, and_self, cRg1_ap, rg1K_f, rg1K_t, cRg2_ap, rg2K_ap, rg2K2_f, rg2K2_t, bind_ok, bind_no, bind_exc, bind_ite, opt_some, opt_none, opt_ite, val_okv, val_oko, val_no, val_exc, val_ite, opn_eq, flow_ok, flow_no, flow_exc, flow_ite, seq_next, seq_ret, seq_brk, seq_cont, seq_exc, seq_no, seq_ite, turn_next, turn_ret, turn_brk, turn_cont, turn_exc, turn_ite, done_next, done_ret, done_exc, done_ite, mask_nil, mask_t, mask_f, orNo_some, orNo_none, getS_z, getS_s, cVar_ap, rdV_val, rdV_own, cMov_ap, rdM_val, rdM_own, dat_val, dat_own, datV_eq, datS_val, datS_own, datR_eq, datSR_val, datSR_own, datSR_rd, cCon_ap, cVal_ap, cValK_ap, c1_ap, c1K_ap, c2_ap, c2K_ap, gO_some, c1V_ap, c2V_ap, c2V0_some, c2VK_ap, c2W_ap, c2WK_ap, bl_some, cBin_eq, cNeg_eq, cNot_eq, cCmp_eq, cIsN_eq, cSub_eq, cSubV_eq, cRev_eq, cRevV_eq, cInV_eq, cIsi_eq, cIsiV_eq, cBiV_ap, cChn_ap, chnKx_ap, chnKy_ap, chnK1_ap, chnK2_ap, cAnd_ap, andK_ap, andK2_ap, cOr_ap, orK_val, orK_own, orK2_ap, cIte_ap, iteK_ap, consK_ap, appK_ap, evs_nil, evs_cons, evsK_ap, evI_nil, evI_one, evIK_ap, evIA_ap, evI_star, evIS_ap, seqO_some, evI_starV, seqD_l, seqD_t, cLst_ap, lstK_ap, cTup_ap, tupK_ap, evO_none, someK_ap, evO_some, evOK_ap, intO_i, cSl_ap, slK1_ap, slK2_ap, slK3_ap, cSlV_ap, slV0_some, slVK1_ap, slVK2_ap, cBi_ap, biK_ap, evA_nil, evA_ref, evA0_some, evA_val, evAK_ap, cCall_ap, callK_ap, callK2_ap, back_ret, back_exc, putBack_nil, putBack_ref, putBack_val, atCall_nil, atCall_ref, consO_some, atC0_some, atCall_val, cCallK_ap, callKK_ap, callKK2_ap, perm_nil, tVal_ap, tvK_ap, tAnd_ap, tAndK_ap, tOr_ap, tOrK_ap, tNot_ap, tNotK_ap, iIt_ap, itK_ap, items_l, items_t, iRng1_ap, r1K_ap, iRng2_ap, r2K1_ap, r2K_ap, iZip_ap, zipK1_ap, zipK_ap, zipD_l, zipD_t, iEnm_ap, enmK_ap, enmD_l, enmD_t, sSeq_ap, keep_tv, keep_to, keep_fv, keep_fo, setF_some, sAsg_ap, asgK_ap, nxF_some, sAsgT_ap, asgTK_ap, bindT_nm, bindT_tt, bindT_tl, bindTs_nil, bndK_some, bindTs_cons, evSs_nil, evSs_cons, evSsK_ap, sPar_ap, parK_ap, setPar_nil, parO_some, setPar_cons, sSetIx_ap, sixK_ap, sixK2_some, sixK3_ap, setDN_some, setD_own, sApp_ap, appK0_own, appK2_ap, appD_own, setF_ite, sExp_ap, expK_ap, sIf_ap, ifK_ap, sFor_ap, forK_ap, sWhile_ap, ftK_some, forTurn_ap, retF_some, sRet_ap, retK_ap, sRetN_ap, sBrk_ap, sCont_ap, sPass_ap, cLc_ap, b_add, b_sub, b_mul, b_fdiv, b_mod, b_pow, b_addL, b_addT, b_mulL, b_mulT, n_neg, q_lt, q_le, q_gt, q_ge, q_eq, q_ne, q_eqb, q_neb, c_lt, c_le, c_gt, c_ge, c_eq, t_b, t_i, t_l, t_t, t_n, g_not, i_n, i_b, i_i, i_s, i_l, i_t, g_isn, g_isnn, gi_n, gi_b, gi_i, gi_s, gi_l, gi_t, f_max, f_min, f_abs, f_int, f_intb, f_lenl, f_lent, f_listl, f_listt, f_tupl, f_tupt, f_sum, f_all, f_any, f_sort, f_sortT, g_atl, g_att, s_l, s_t, r_l, List.set_cons_zero, List.set_cons_succ, List.map_cons, List.map_nil, List.nil_append, List.cons_append, Option.map_some, Option.map_none, decide_eq_true_eq, Bool.not_eq_true', decide_eq_false_iff_not, Bool.false_eq_true, if_true, if_false, ite_self, if_false, rep_z, rep_s, lenOk, List.length_cons, List.length_nil]; rfl
        · have hh : (c :: t = [] ∨ (true : Bool) = false ∨ (c :: t).head? = some 48 ∧ c :: t ≠ [48]) := .inr (.inr ⟨by rw [h8]; rfl, ht⟩)
          rw [if_pos hh]
          have h8' : ([c] = [48]) := by rw [h8]
          simp only [m_number_in, q_eqS, q_neS, nn, h8', ht, a0, its, lc, ba, bi, decide_true, decide_false, Bool.not_true, Bool.not_false, cLenI_ap, lenIK_l, lenIK_t, cSs_eq, cPop_ap, popK0_own, popF_some, popK_ap, sExt_ap, extK0_own, extK2_ap, extD_own, gFld_snap, cFld_eq, cPrp_ap, prpK_ap, noX_ok, cMb_ap, mbK_ap, mbK1_ap, mbK2_ap, rc_ixl, rc_spl, rc_joi, cFst_ap, fK0_ap, evF_nil, evF_cons, fK1_ap, fK2_ap, newK_ret, f_sumt, List.isEmpty_nil, List.isEmpty_cons, not_true_eq_false, not_false_eq_true, r_t, perm_cons, permC_some, List.getElem?_cons_zero, List.getElem?_cons_succ, at_0, at_1, at_2, at_3, at_4, at_last, List.length_map, reduceCtorEq, lcTurn_ap, lcK3_ap, lcK2_ap, lcE_some, evC_none, evC_some, wipe_nil, wipe_cons, rest_nil, rest_cons, fw_next, fw_ret, fw_brk, fw_cont, fw_ite, Nat.reduceAdd, Nat.reduceLeDiff, true_and, and_true, and_self, cRg1_ap, rg1K_f, rg1K_t, cRg2_ap, rg2K_ap, rg2K2_f, rg2K2_t, bind_ok, bind_no, bind_exc, bind_ite, opt_some, opt_none, opt_ite, val_okv, val_oko, val_no, val_exc, val_ite, opn_eq, flow_ok, flow_no, flow_exc, flow_ite, seq_next, seq_ret, seq_brk, seq_cont, seq_exc, seq_no, seq_ite, turn_next, turn_ret, turn_brk, turn_cont, turn_exc, turn_ite, done_next, done_ret, done_exc, done_ite, mask_nil, mask_t, mask_f, orNo_some, orNo_none, getS_z, getS_s, cVar_ap, rdV_val, rdV_own, cMov_ap, rdM_val, rdM_own, dat_val, dat_own, datV_eq, datS_val, datS_own, datR_eq, datSR_val, datSR_own, datSR_rd, cCon_ap, cVal_ap, cValK_ap, c1_ap, c1K_ap, c2_ap, c2K_ap, gO_some, c1V_ap, c2V_ap, c2V0_some, c2VK_ap, c2W_ap, c2WK_ap, bl_some, cBin_eq, cNeg_eq, cNot_eq, cCmp_eq, cIsN_eq, cSub_eq, cSubV_eq, cRev_eq, cRevV_eq, cInV_eq, cIsi_eq, cIsiV_eq, cBiV_ap, cChn_ap, chnKx_ap, chnKy_ap, chnK1_ap, chnK2_ap, cAnd_ap, andK_ap, andK2_ap, cOr_ap, orK_val, orK_own, orK2_ap, cIte_ap, iteK_ap, consK_ap, appK_ap, evs_nil, evs_cons, evsK_ap, evI_nil, evI_one, evIK_ap, evIA_ap, evI_star, evIS_ap, seqO_some, evI_starV, seqD_l, seqD_t, cLst_ap, lstK_ap, cTup_ap, tupK_ap, evO_none, someK_ap, evO_some, evOK_ap, intO_i, cSl_ap, slK1_ap, slK2_ap, slK3_ap, cSlV_ap, slV0_some, slVK1_ap, slVK2_ap, cBi_ap, biK_ap, evA_nil, evA_ref, evA0_some, evA_val, evAK_ap, cCall_ap, callK_ap, callK2_ap, back_ret, back_exc, putBack_nil, putBack_ref, putBack_val, atCall_nil, atCall_ref, consO_some, atC0_some, atCall_val, cCallK_ap, callKK_ap, callKK2_ap, perm_nil, tVal_ap, tvK_ap, tAnd_ap, tAndK_ap, tOr_ap, tOrK_ap, tNot_ap, tNotK_ap, iIt_ap, itK_ap, items_l, items_t, iRng1_ap, r1K_ap, iRng2_ap, r2K1_ap, r2K_ap, iZip_ap, zipK1_ap, zipK_ap, zipD_l, zipD_t, iEnm_ap, enmK_ap, enmD_l, enmD_t, sSeq_ap, keep_tv, keep_to, keep_fv, keep_fo, setF_some, sAsg_ap, asgK_ap, nxF_some, sAsgT_ap, asgTK_ap, bindT_nm, bindT_tt, bindT_tl, bindTs_nil, bndK_some, bindTs_cons, evSs_nil, evSs_cons, evSsK_ap, sPar_ap, parK_ap, setPar_nil, parO_some, setPar_cons, sSetIx_ap, sixK_ap, sixK2_some, sixK3_ap, setDN_some, setD_own, sApp_ap, appK0_own, appK2_ap, appD_own, setF_ite, sExp_ap, expK_ap, sIf_ap, ifK_ap, sFor_ap, forK_ap, sWhile_ap, ftK_some, forTurn_ap, retF_some, sRet_ap, retK_ap, sRetN_ap, sBrk_ap, sCont_ap, sPass_ap, cLc_ap, b_add, b_sub, b_mul, b_fdiv, b_mod, b_pow, b_addL, b_addT, b_mulL, b_mulT, n_neg, q_lt, q_le, q_gt, q_ge, q_eq, q_ne, q_eqb, q_neb, c_lt, c_le, c_gt, c_ge, c_eq, t_b, t_i, t_l, t_t, t_n, g_not, i_n, i_b, i_i, i_s, i_l, i_t, g_isn, g_isnn, gi_n, gi_b, gi_i, gi_s, gi_l, gi_t, f_max, f_min, f_abs, f_int, f_intb, f_lenl, f_lent, f_listl, f_listt, f_tupl, f_tupt, f_sum, f_all, f_any, f_sort, f_sortT, g_atl, g_att, s_l, s_t, r_l, List.set_cons_zero, List.set_cons_succ, List.map_cons, List.map_nil, List.nil_append, List.cons_append, Option.map_some, Option.map_none, decide_eq_true_eq, Bool.not_eq_true', decide_eq_false_iff_not, Bool.false_eq_true, if_true, if_false, ite_self, if_false, rep_z, rep_s, lenOk, List.length_cons, List.length_nil]; rfl
      · have hh : ¬ (c :: t = [] ∨ (true : Bool) = false ∨ (c :: t).head? = some 48 ∧ c :: t ≠ [48]) := by simp [h8]
        rw [if_neg hh]
        have h8' : ¬ ([c] = [48]) := by simp [h8]
        simp only [m_number_in, q_eqS, q_neS, nn, h8', a0, its, lc, ba, bi, decide_true, decide_false, Bool.not_true, Bool.not_false, cLenI_ap, lenIK_l, lenIK_t, cSs_eq, cPop_ap, popK0_own, popF_some, popK_ap, sExt_ap, extK0_own, extK2_ap, extD_own, gFld_snap, cFld_eq, cPrp_ap, prpK_ap, noX_ok, cMb_ap, mbK_ap, mbK1_ap, mbK2_ap, rc_ixl, rc_spl, rc_joi, cFst_ap, fK0_ap, evF_nil, evF_cons, fK1_ap, fK2_ap, newK_ret, f_sumt, List.isEmpty_nil, List.isEmpty_cons, not_true_eq_false, not_false_eq_true, r_t, perm_cons, permC_some, List.getElem?_cons_zero, List.getElem?_cons_succ, at_0, at_1, at_2, at_3, at_4, at_last, List.length_map, reduceCtorEq, lcTurn_ap, lcK3_ap, lcK2_ap, lcE_some, evC_none, evC_some, wipe_nil, wipe_cons, rest_nil, rest_cons, fw_next, fw_ret, fw_brk, fw_cont, fw_ite, Nat.reduceAdd, Nat.reduceLeDiff, true_and, and_true, and_self, cRg1_ap, rg1K_f, rg1K_t, cRg2_ap, rg2K_ap, rg2K2_f, rg2K2_t, bind_ok, bind_no, bind_exc, bind_ite, opt_some, opt_none, opt_ite, val_okv, val_oko, val_no, val_exc, val_ite, opn_eq, flow_ok, flow_no, flow_exc, flow_ite, seq_next, seq_ret, seq_brk, seq_cont, seq_exc, seq_no, seq_ite, turn_next, turn_ret, turn_brk, turn_cont, turn_exc, turn_ite, done_next, done_ret, done_exc, done_ite, mask_nil, mask_t, mask_f, orNo_some, orNo_none, getS_z, getS_s, cVar_ap, rdV_val, rdV_own, cMov_ap, rdM_val, rdM_own, dat_val, dat_own, datV_eq, datS_val, datS_own, datR_eq, datSR_val, datSR_own, datSR_rd, cCon_ap, cVal_ap, cValK_ap, c1_ap, c1K_ap, c2_ap, c2K_ap, gO_some, c1V_ap, c2V_ap, c2V0_some, c2VK_ap, c2W_ap, c2WK_ap, bl_some, cBin_eq, cNeg_eq, cNot_eq, cCmp_eq, cIsN_eq, cSub_eq, cSubV_eq, cRev_eq, cRevV_eq, cInV_eq, cIsi_eq, cIsiV_eq, cBiV_ap, cChn_ap, chnKx_ap, chnKy_ap, chnK1_ap, chnK2_ap, cAnd_ap, andK_ap, andK2_ap, cOr_ap, orK_val, orK_own, orK2_ap, cIte_ap, iteK_ap, consK_ap, appK_ap, evs_nil, evs_cons, evsK_ap, evI_nil, evI_one, evIK_ap, evIA_ap, evI_star, evIS_ap, seqO_some, evI_starV, seqD_l, seqD_t, cLst_ap, lstK_ap, cTup_ap, tupK_ap, evO_none, someK_ap, evO_some, evOK_ap, intO_i, cSl_ap, slK1_ap, slK2_ap, slK3_ap, cSlV_ap, slV0_some, slVK1_ap, slVK2_ap, cBi_ap, biK_ap, evA_nil, evA_ref, evA0_some, evA_val, evAK_ap, cCall_ap, callK_ap, callK2_ap, back_ret, back_exc, putBack_nil, putBack_ref, putBack_val, atCall_nil, atCall_ref, consO_some, atC0_some, atCall_val, cCallK_ap, callKK_ap, callKK2_ap, perm_nil, tVal_ap, tvK_ap, tAnd_ap, tAndK_ap, tOr_ap, tOrK_ap, tNot_ap, tNotK_ap, iIt_ap, itK_ap, items_l, items_t, iRng1_ap, r1K_ap, iRng2_ap, r2K1_ap, r2K_ap, iZip_ap, zipK1_ap, zipK_ap, zipD_l, zipD_t, iEnm_ap, enmK_ap, enmD_l, enmD_t, sSeq_ap, keep_tv, keep_to, keep_fv, keep_fo, setF_some, sAsg_ap, asgK_ap, nxF_some, sAsgT_ap, asgTK_ap, bindT_nm, bindT_tt, bindT_tl, bindTs_nil, bndK_some, bindTs_cons, evSs_nil, evSs_cons, evSsK_ap, sPar_ap, parK_ap, setPar_nil, parO_some, setPar_cons, sSetIx_ap, sixK_ap, sixK2_some, sixK3_ap, setDN_some, setD_own, sApp_ap, appK0_own, appK2_ap, appD_own, setF_ite, sExp_ap, expK_ap, sIf_ap, ifK_ap, sFor_ap, forK_ap, sWhile_ap, ftK_some, forTurn_ap, retF_some, sRet_ap, retK_ap, sRetN_ap, sBrk_ap, sCont_ap, sPass_ap, cLc_ap, b_add, b_sub, b_mul, b_fdiv, b_mod, b_pow, b_addL, b_addT, b_mulL, b_mulT, n_neg, q_lt, q_le, q_gt, q_ge, q_eq, q_ne, q_eqb, q_neb, c_lt, c_le, c_gt, c_ge, c_eq, t_b, t_i, t_l, t_t, t_n, g_not, i_n, i_b, i_i, i_s, i_l, i_t, g_isn, g_isnn, gi_n, gi_b, gi_i, gi_s, gi_l, gi_t, f_max, f_min, f_abs, f_int, f_intb, f_lenl, f_lent, f_listl, f_listt, f_tupl, f_tupt, f_sum, f_all, f_any, f_sort, f_sortT, g_atl, g_att, s_l, s_t, r_l, List.set_cons_zero, List.set_cons_succ, List.map_cons, List.map_nil, List.nil_append, List.cons_append, Option.map_some, Option.map_none, decide_eq_true_eq, Bool.not_eq_true', decide_eq_false_iff_not, Bool.false_eq_true, if_true, if_false, ite_self, if_false, rep_z, rep_s, lenOk, List.length_cons, List.length_nil]; rfl
theorem none_in0 (o : Option Int) : gCmp .isin (optI o) (.tuple [.none, .int 0]) = some (.val (.bool (decide (o = none ∨ o = some 0)))) := by
  cases o with
  | none => rfl
  | some i =>
    show (inD (.int i) (.tuple [.none, .int 0])).map (fun b => Ev.Slot.val (.bool b)) = _
    show (some (anyEq (.int i) [.none, .int 0])).map (fun b => Ev.Slot.val (.bool b)) = _
    have : anyEq (.int i) [.none, .int 0] = decide (some i = none ∨ some i = some 0) := by
      show (PyData.eqv .none (.int i) || (PyData.eqv (.int 0) (.int i) || false)) = _
      have e1 : PyData.eqv .none (.int i) = false := by unfold PyData.eqv; rfl
      rw [e1, ev_i, Bool.false_or, Bool.or_false, decide_eq_decide]
      simp [eq_comm]
    rw [this]; rfl
theorem signs_in (c : Nat) : gCmp .notin (.str (S [c])) (.tuple [.str (S [43]), .str (S [45])]) = some (.val (.bool (decide (c ≠ 43 ∧ c ≠ 45)))) := by
  show ((some (anyEq (.str (S [c])) [.str (S [43]), .str (S [45])])).map (fun b => !b)).map (fun b => Ev.Slot.val (.bool b)) = _
  have : anyEq (.str (S [c])) [.str (S [43]), .str (S [45])] = decide (c = 43 ∨ c = 45) := by
    show (PyData.eqv (.str (S [43])) (.str (S [c])) || (PyData.eqv (.str (S [45])) (.str (S [c])) || false)) = _
    have e : ∀ a : Nat, PyData.eqv (.str (S [a])) (.str (S [c])) = decide (c = a) := fun a => by
      have : PyData.eqv (.str (S [a])) (.str (S [c])) = (S [a] == S [c]) := by unfold PyData.eqv; rfl
      rw [this, S_beq, decide_eq_decide]
      simp [eq_comm]
    rw [e, e, Bool.or_false, ← Bool.decide_or]
  rw [this]
  show some (Ev.Slot.val (.bool (!decide (c = 43 ∨ c = 45)))) = _
  congr 3
  by_cases h : c = 43 ∨ c = 45
  · rw [decide_eq_true h, decide_eq_false (by omega)]; rfl
  · rw [decide_eq_false h, decide_eq_true (by omega)]; rfl
theorem runin_ok (n : Nat) (l : List Nat) (hne : l ≠ []) (h : l.length ≤ 640) : call P (n + 2) 1 [.val (.str (S l))] = .ret (.val (optI (runZ l))) [none] := by
  obtain ⟨c, t, rfl⟩ : ∃ c t, l = c :: t := by
    cases l with
    | nil => exact (hne rfl).elim
    | cons c t => exact ⟨c, t, rfl⟩
  have h2 : (c :: t).length ≤ sizeLine := by rw [lenOk]; omega
  have nk := number_ok n t (by rw [List.length_cons] at h; omega)
  have a0 := at0_S c t h2
  have ts := tail_S (c :: t) h2
  rw [call_eq m_run_in rfl rfl]
  unfold runZ
  dsimp only
  have g0 : gAt (.tuple [.str (S [43]), .str (S [45])]) (.int 0) = some (.val (.str (S [43]))) := rfl
  cases hz : numZ t with
  | none =>
    rw [hz] at nk
    have ni : gCmp .isin (optI none) (.tuple [.none, .int 0]) = some (.val (.bool true)) := by rw [none_in0, decide_eq_true (.inl rfl)]
    simp only [m_run_in, ts, List.drop_succ_cons, List.drop_zero, nk, ni, cLenI_ap, lenIK_l, lenIK_t, cSs_eq, cPop_ap, popK0_own, popF_some, popK_ap, sExt_ap, extK0_own, extK2_ap, extD_own, gFld_snap, cFld_eq, cPrp_ap, prpK_ap, noX_ok, cMb_ap, mbK_ap, mbK1_ap, mbK2_ap, rc_ixl, rc_spl, rc_joi, cFst_ap, fK0_ap, evF_nil, evF_cons, fK1_ap, fK2_ap, newK_ret, f_sumt, List.isEmpty_nil, List.isEmpty_cons, not_true_eq_false, not_false_eq_true, r_t, perm_cons, permC_some, List.getElem?_cons_zero, List.getElem?_cons_succ, at_0, at_1, at_2, at_3, at_4, at_last, List.length_map, reduceCtorEq, lcTurn_ap, lcK3_ap, lcK2_ap, lcE_some, evC_none, evC_some, wipe_nil, wipe_cons, rest_nil, rest_cons, fw_next, fw_ret, fw_brk, fw_cont, fw_ite, Nat.reduceAdd, Nat.reduceLeDiff, true_and, and_true, and_self, cRg1_ap, rg1K_f, rg1K_t, cRg2_ap, rg2K_ap, rg2K2_f, rg2K2_t, bind_ok, bind_no, bind_exc, bind_ite, opt_some, opt_none, opt_ite, val_okv, val_oko, val_no, val_exc, val_ite, opn_eq, flow_ok, flow_no, flow_exc, flow_ite, seq_next, seq_ret, seq_brk, seq_cont, seq_exc, seq_no, seq_ite, turn_next, turn_ret, turn_brk, turn_cont, turn_exc, turn_ite, done_next, done_ret, done_exc, done_ite, mask_nil, mask_t, mask_f, orNo_some, orNo_none, getS_z, getS_s, cVar_ap, rdV_val, rdV_own, cMov_ap, rdM_val, rdM_own, dat_val, dat_own, datV_eq, datS_val, datS_own, datR_eq, datSR_val, datSR_own, datSR_rd, cCon_ap, cVal_ap, cValK_ap, c1_ap, c1K_ap, c2_ap, c2K_ap, gO_some, c1V_ap, c2V_ap, c2V0_some, c2VK_ap, c2W_ap, c2WK_ap, bl_some, cBin_eq, cNeg_eq, cNot_eq, cCmp_eq, cIsN_eq, cSub_eq, cSubV_eq, cRev_eq, cRevV_eq, cInV_eq, cIsi_eq, cIsiV_eq, cBiV_ap, cChn_ap, chnKx_ap, chnKy_ap, chnK1_ap, chnK2_ap, cAnd_ap, andK_ap, andK2_ap, cOr_ap, orK_val, orK_own, orK2_ap, cIte_ap, iteK_ap, consK_ap, appK_ap, evs_nil, evs_cons, evsK_ap, evI_nil, evI_one, evIK_ap, evIA_ap, evI_star, evIS_ap, seqO_some, evI_starV, seqD_l, seqD_t, cLst_ap, lstK_ap, cTup_ap, tupK_ap, evO_none, someK_ap, evO_some, evOK_ap, intO_i, cSl_ap, slK1_ap, slK2_ap, slK3_ap, cSlV_ap, slV0_some, slVK1_ap, slVK2_ap, cBi_ap, biK_ap, evA_nil, evA_ref, evA0_some, evA_val, evAK_ap, cCall_ap, callK_ap, callK2_ap, back_ret, back_exc, putBack_nil, putBack_ref, putBack_val, atCall_nil, atCall_ref, consO_some, atC0_some, atCall_val, cCallK_ap, callKK_ap, callKK2_ap, perm_nil, tVal_ap, tvK_ap, tAnd_ap, tAndK_ap, tOr_ap, tOrK_ap, tNot_ap, tNotK_ap, iIt_ap, itK_ap, items_l, items_t, iRng1_ap, r1K_ap, iRng2_ap, r2K1_ap, r2K_ap, iZip_ap, zipK1_ap, zipK_ap, zipD_l, zipD_t, iEnm_ap, enmK_ap, enmD_l, enmD_t, sSeq_ap, keep_tv, keep_to, keep_fv, keep_fo, setF_some, sAsg_ap, asgK_ap, nxF_some, sAsgT_ap, asgTK_ap, bindT_nm, bindT_tt, bindT_tl, bindTs_nil, bndK_some, bindTs_cons, evSs_nil, evSs_cons, evSsK_ap, sPar_ap, parK_ap, setPar_nil, parO_some, setPar_cons, sSetIx_ap, sixK_ap, sixK2_some, sixK3_ap, setDN_some, setD_own, sApp_ap, appK0_own, appK2_ap, appD_own, setF_ite, sExp_ap, expK_ap, sIf_ap, ifK_ap, sFor_ap, forK_ap, sWhile_ap, ftK_some, forTurn_ap, retF_some, sRet_ap, retK_ap, sRetN_ap, sBrk_ap, sCont_ap, sPass_ap, cLc_ap, b_add, b_sub, b_mul, b_fdiv, b_mod, b_pow, b_addL, b_addT, b_mulL, b_mulT, n_neg, q_lt, q_le, q_gt, q_ge, q_eq, q_ne, q_eqb, q_neb, c_lt, c_le, c_gt, c_ge, c_eq, t_b, t_i, t_l, t_t, t_n, g_not, i_n, i_b, i_i, i_s, i_l, i_t, g_isn, g_isnn, gi_n, gi_b, gi_i, gi_s, gi_l, gi_t, f_max, f_min, f_abs, f_int, f_intb, f_lenl, f_lent, f_listl, f_listt, f_tupl, f_tupt, f_sum, f_all, f_any, f_sort, f_sortT, g_atl, g_att, s_l, s_t, r_l, List.set_cons_zero, List.set_cons_succ, List.map_cons, List.map_nil, List.nil_append, List.cons_append, Option.map_some, Option.map_none, decide_eq_true_eq, Bool.not_eq_true', decide_eq_false_iff_not, Bool.false_eq_true, if_true, if_false, ite_self, if_false, rep_z, rep_s, lenOk, List.length_cons, List.length_nil]; rfl
  | some i =>
    rw [hz] at nk
    dsimp only
    by_cases h0 : i = 0
    · have ni : gCmp .isin (optI (some i)) (.tuple [.none, .int 0]) = some (.val (.bool true)) := by rw [none_in0, decide_eq_true (.inr (by rw [h0]))]
      rw [if_pos (.inl h0)]
      simp only [m_run_in, ts, List.drop_succ_cons, List.drop_zero, nk, ni, cLenI_ap, lenIK_l, lenIK_t, cSs_eq, cPop_ap, popK0_own, popF_some, popK_ap, sExt_ap, extK0_own, extK2_ap, extD_own, gFld_snap, cFld_eq, cPrp_ap, prpK_ap, noX_ok, cMb_ap, mbK_ap, mbK1_ap, mbK2_ap, rc_ixl, rc_spl, rc_joi, cFst_ap, fK0_ap, evF_nil, evF_cons, fK1_ap, fK2_ap, newK_ret, f_sumt, List.isEmpty_nil, List.isEmpty_cons, not_true_eq_false, not_false_eq_true, r_t, perm_cons, permC_some, List.getElem?_cons_zero, List.getElem?_cons_succ, at_0, at_1, at_2, at_3, at_4, at_last, List.length_map, reduceCtorEq, lcTurn_ap, lcK3_ap, lcK2_ap, lcE_some, evC_none, evC_some, wipe_nil, wipe_cons, rest_nil, rest_cons, fw_next, fw_ret, fw_brk, fw_cont, fw_ite, Nat.reduceAdd, Nat.reduceLeDiff, true_and, and_true, and_self, cRg1_ap, rg1K_f, rg1K_t, cRg2_ap, rg2K_ap, rg2K2_f, rg2K2_t, bind_ok, bind_no, bind_exc, bind_ite, opt_some, opt_none, opt_ite, val_okv, val_oko, val_no, val_exc, val_ite, opn_eq, flow_ok, flow_no, flow_exc, flow_ite, seq_next, seq_ret, seq_brk, seq_cont, seq_exc, seq_no, seq_ite, turn_next, turn_ret, turn_brk, turn_cont, turn_exc, turn_ite, done_next, done_ret, done_exc, done_ite, mask_nil, mask_t, mask_f, orNo_some, orNo_none, getS_z, getS_s, cVar_ap, rdV_val, rdV_own, cMov_ap, rdM_val, rdM_own, dat_val, dat_own, datV_eq, datS_val, datS_own, datR_eq, datSR_val, datSR_own, datSR_rd, cCon_ap, cVal_ap, cValK_ap, c1_ap, c1K_ap, c2_ap, c2K_ap, gO_some, c1V_ap, c2V_ap, c2V0_some, c2VK_ap, c2W_ap, c2WK_ap, bl_some, cBin_eq, cNeg_eq, cNot_eq, cCmp_eq, cIsN_eq, cSub_eq, cSubV_eq, cRev_eq, cRevV_eq, cInV_eq, cIsi_eq, cIsiV_eq, cBiV_ap, cChn_ap, chnKx_ap, chnKy_ap, chnK1_ap, chnK2_ap, cAnd_ap, andK_ap, andK2_ap, cOr_ap, orK_val, orK_own, orK2_ap, cIte_ap, iteK_ap, consK_ap, appK_ap, evs_nil, evs_cons, evsK_ap, evI_nil, evI_one, evIK_ap, evIA_ap, evI_star, evIS_ap, seqO_some, evI_starV, seqD_l, seqD_t, cLst_ap, lstK_ap, cTup_ap, tupK_ap, evO_none, someK_ap, evO_some, evOK_ap, intO_i, cSl_ap, slK1_ap, slK2_ap, slK3_ap, cSlV_ap, slV0_some, slVK1_ap, slVK2_ap, cBi_ap, biK_ap, evA_nil, evA_ref, evA0_some, evA_val, evAK_ap, cCall_ap, callK_ap, callK2_ap, back_ret, back_exc, putBack_nil, putBack_ref, putBack_val, atCall_nil, atCall_ref, consO_some, atC0_some, atCall_val, cCallK_ap, callKK_ap, callKK2_ap, perm_nil, tVal_ap, tvK_ap, tAnd_ap, tAndK_ap, tOr_ap, tOrK_ap, tNot_ap, tNotK_ap, iIt_ap, itK_ap, items_l, items_t, iRng1_ap, r1K_ap, iRng2_ap, r2K1_ap, r2K_ap, iZip_ap, zipK1_ap, zipK_ap, zipD_l, zipD_t, iEnm_ap, enmK_ap, enmD_l, enmD_t, sSeq_ap, keep_tv, keep_to, keep_fv, keep_fo, setF_some, sAsg_ap, asgK_ap, nxF_some, sAsgT_ap, asgTK_ap, bindT_nm, bindT_tt, bindT_tl, bindTs_nil, bndK_some, bindTs_cons, evSs_nil, evSs_cons, evSsK_ap, sPar_ap, parK_ap, setPar_nil, parO_some, setPar_cons, sSetIx_ap, sixK_ap, sixK2_some, sixK3_ap, setDN_some, setD_own, sApp_ap, appK0_own, appK2_ap, appD_own, setF_ite, sExp_ap, expK_ap, sIf_ap, ifK_ap, sFor_ap, forK_ap, sWhile_ap, ftK_some, forTurn_ap, retF_some, sRet_ap, retK_ap, sRetN_ap, sBrk_ap, sCont_ap, sPass_ap, cLc_ap, b_add, b_sub, b_mul, b_fdiv, b_mod, b_pow, b_addL, b_addT, b_mulL, b_mulT, n_neg, q_lt, q_le, q_gt, q_ge, q_eq, q_ne, q_eqb, q_neb, c_lt, c_le, c_gt, c_ge, c_eq, t_b, t_i, t_l, t_t, t_n, g_not, i_n, i_b, i_i, i_s, i_l, i_t, g_isn, g_isnn, gi_n, gi_b, gi_i, gi_s, gi_l, gi_t, f_max, f_min, f_abs, f_int, f_intb, f_lenl, f_lent, f_listl, f_listt, f_tupl, f_tupt, f_sum, f_all, f_any, f_sort, f_sortT, g_atl, g_att, s_l, s_t, r_l, List.set_cons_zero, List.set_cons_succ, List.map_cons, List.map_nil, List.nil_append, List.cons_append, Option.map_some, Option.map_none, decide_eq_true_eq, Bool.not_eq_true', decide_eq_false_iff_not, Bool.false_eq_true, if_true, if_false, ite_self, if_false, rep_z, rep_s, lenOk, List.length_cons, List.length_nil]; rfl
    · have ni : gCmp .isin (optI (some i)) (.tuple [.none, .int 0]) = some (.val (.bool false)) := by rw [none_in0, decide_eq_false (by simp [h0])]
      by_cases hc : c ≠ 43 ∧ c ≠ 45
      · have sg : gCmp .notin (.str (S [c])) (.tuple [.str (S [43]), .str (S [45])]) = some (.val (.bool true)) := by rw [signs_in, decide_eq_true hc]
        rw [if_pos (.inr hc)]
        simp only [m_run_in, ts, List.drop_succ_cons, List.drop_zero, nk, ni, a0, sg, cLenI_ap, lenIK_l, lenIK_t, cSs_eq, cPop_ap, popK0_own, popF_some, popK_ap, sExt_ap, extK0_own, extK2_ap, extD_own, gFld_snap, cFld_eq, cPrp_ap, prpK_ap, noX_ok, cMb_ap, mbK_ap, mbK1_ap, mbK2_ap, rc_ixl, rc_spl, rc_joi, cFst_ap, fK0_ap, evF_nil, evF_cons, fK1_ap, fK2_ap, newK_ret, f_sumt, List.isEmpty_nil, List.isEmpty_cons, not_true_eq_false, not_false_eq_true, r_t, perm_cons, permC_some, List.getElem?_cons_zero, List.getElem?_cons_succ, at_0, at_1, at_2, at_3, at_4, at_last, List.length_map, reduceCtorEq, lcTurn_ap, lcK3_ap, lcK2_ap, lcE_some, evC_none, evC_some, wipe_nil, wipe_cons, rest_nil, rest_cons, fw_next, fw_ret, fw_brk, fw_cont, fw_ite, Nat.reduceAdd, Nat.reduceLeDiff, true_and, and_true, and_self, cRg1_ap, rg1K_f, rg1K_t, cRg2_ap, rg2K_ap, rg2K2_f, rg2K2_t, bind_ok, bind_no, bind_exc, bind_ite, opt_some, opt_none, opt_ite, val_okv, val_oko, val_no, val_exc, val_ite, opn_eq, flow_ok, flow_no, flow_exc, flow_ite, seq_next, seq_ret, seq_brk, seq_cont, seq_exc, seq_no, seq_ite, turn_next, turn_ret, turn_brk, turn_cont, turn_exc, turn_ite, done_next, done_ret, done_exc, done_ite, mask_nil, mask_t, mask_f, orNo_some, orNo_none, getS_z, getS_s, cVar_ap, rdV_val, rdV_own, cMov_ap, rdM_val, rdM_own, dat_val, dat_own, datV_eq, datS_val, datS_own, datR_eq, datSR_val, datSR_own, datSR_rd, cCon_ap, cVal_ap, cValK_ap, c1_ap, c1K_ap, c2_ap, c2K_ap, gO_some, c1V_ap, c2V_ap, c2V0_some, c2VK_ap, c2W_ap, c2WK_ap, bl_some, cBin_eq, cNeg_eq, cNot_eq, cCmp_eq, cIsN_eq, cSub_eq, cSubV_eq, cRev_eq, cRevV_eq, cInV_eq, cIsi_eq, cIsiV_eq, cBiV_ap, cChn_ap, chnKx_ap, chnKy_ap, chnK1_ap, chnK2_ap, cAnd_ap, andK_ap, andK2_ap, cOr_ap, orK_val, orK_own, orK2_ap, cIte_ap, iteK_ap, consK_ap, appK_ap, evs_nil, evs_cons, evsK_ap, evI_nil, evI_one, evIK_ap, evIA_ap, evI_star, evIS_ap, seqO_some, evI_starV, seqD_l, seqD_t, cLst_ap, lstK_ap, cTup_ap, tupK_ap, evO_none, someK_ap, evO_some, evOK_ap, intO_i, cSl_ap, slK1_ap, slK2_ap, slK3_ap, cSlV_ap, slV0_some, slVK1_ap, slVK2_ap, cBi_ap, biK_ap, evA_nil, evA_ref, evA0_some, evA_val, evAK_ap, cCall_ap, callK_ap, callK2_ap, back_ret, back_exc, putBack_nil, putBack_ref, putBack_val, atCall_nil, atCall_ref, consO_some, atC0_some, atCall_val, cCallK_ap, callKK_ap, callKK2_ap, perm_nil, tVal_ap, tvK_ap, tAnd_ap, tAndK_ap, tOr_ap, tOrK_ap, tNot_ap, tNotK_ap, iIt_ap, itK_ap, items_l, items_t, iRng1_ap, r1K_ap, iRng2_ap, r2K1_ap, r2K_ap, iZip_ap, zipK1_ap, zipK_ap, zipD_l, zipD_t, iEnm_ap, enmK_ap, enmD_l, enmD_t, sSeq_ap, keep_tv, keep_to, keep_fv, keep_fo, setF_some, sAsg_ap, asgK_ap, nxF_some, sAsgT_ap, asgTK_ap, bindT_nm, bindT_tt, bindT_tl, bindTs_nil, bndK_some, bindTs_cons, evSs_nil, evSs_cons, evSsK_ap, sPar_ap, parK_ap, setPar_nil, parO_some, setPar_cons, sSetIx_ap, sixK_ap, sixK2_some, sixK3_ap, setDN_some, setD_own, sApp_ap, appK0_own, appK2_ap, appD_own, setF_ite, sExp_ap, expK_ap, sIf_ap, ifK_ap, sFor_ap, forK_ap, sWhile_ap, ftK_some, forTurn_ap, retF_some, sRet_ap, retK_ap, sRetN_ap, sBrk_ap, sCont_ap, sPass_ap, cLc_ap, b_add, b_sub, b_mul, b_fdiv, b_mod, b_pow, b_addL, b_addT, b_mulL, b_mulT, n_neg, q_lt, q_le, q_gt, q_ge, q_eq, q_ne, q_eqb, q_neb, c_lt, c_le, c_gt, c_ge, c_eq, t_b, t_i, t_l, t_t, t_n, g_not, i_n, i_b, i_i, i_s, i_l, i_t, g_isn, g_isnn, gi_n, gi_b, gi_i, gi_s, gi_l, gi_t, f_max, f_min, f_abs, f_int, f_intb, f_lenl, f_lent, f_listl, f_listt, f_tupl, f_tupt, f_sum, f_all, f_any, f_sort, f_sortT, g_atl, g_att, s_l, s_t, r_l, List.set_cons_zero, List.set_cons_succ, List.map_cons, List.map_nil, List.nil_append, List.cons_append, Option.map_some, Option.map_none, decide_eq_true_eq, Bool.not_eq_true', decide_eq_false_iff_not, Bool.false_eq_true, if_true, if_false, ite_self, if_false, rep_z, rep_s, lenOk, List.length_cons, List.length_nil]; rfl
      · have sg : gCmp .notin (.str (S [c])) (.tuple [.str (S [43]), .str (S [45])]) = some (.val (.bool false)) := by rw [signs_in, decide_eq_false hc]
        rw [if_neg (by simp only [h0, false_or]; exact hc)]
        by_cases h43 : c = 43
        · have qe : gCmp .eq (.str (S [c])) (.str (S [43])) = some (.val (.bool true)) := by rw [q_eqS, decide_eq_true (by rw [h43])]
          rw [if_pos h43]
          simp only [optI] at ni nk
          simp only [m_run_in, ts, List.drop_succ_cons, List.drop_zero, nk, ni, a0, sg, g0, qe, optI, cLenI_ap, lenIK_l, lenIK_t, cSs_eq, cPop_ap, popK0_own, popF_some, popK_ap, sExt_ap, extK0_own, extK2_ap, extD_own, gFld_snap, cFld_eq, cPrp_ap, prpK_ap, noX_ok, cMb_ap, mbK_ap, mbK1_ap, mbK2_ap, rc_ixl, rc_spl, rc_joi, cFst_ap, fK0_ap, evF_nil, evF_cons, fK1_ap, fK2_ap, newK_ret, f_sumt, List.isEmpty_nil, List.isEmpty_cons, not_true_eq_false, not_false_eq_true, r_t, perm_cons, permC_some, List.getElem?_cons_zero, List.getElem?_cons_succ, at_0, at_1, at_2, at_3, at_4, at_last, List.length_map, reduceCtorEq, lcTurn_ap, lcK3_ap, lcK2_ap, lcE_some, evC_none, evC_some, wipe_nil, wipe_cons, rest_nil, rest_cons, fw_next, fw_ret, fw_brk, fw_cont, fw_ite, Nat.reduceAdd, Nat.reduceLeDiff, true_and, and_true, and_self, cRg1_ap, rg1K_f, rg1K_t, cRg2_ap, rg2K_ap, rg2K2_f, rg2K2_t, bind_ok, bind_no, bind_exc, bind_ite, opt_some, opt_none, opt_ite, val_okv, val_oko, val_no, val_exc, val_ite, opn_eq, flow_ok, flow_no, flow_exc, flow_ite, seq_next, seq_ret, seq_brk, seq_cont, seq_exc, seq_no, seq_ite, turn_next, turn_ret, turn_brk, turn_cont, turn_exc, turn_ite, done_next, done_ret, done_exc, done_ite, mask_nil, mask_t, mask_f, orNo_some, orNo_none, getS_z, getS_s, cVar_ap, rdV_val, rdV_own, cMov_ap, rdM_val, rdM_own, dat_val, dat_own, datV_eq, datS_val, datS_own, datR_eq, datSR_val, datSR_own, datSR_rd, cCon_ap, cVal_ap, cValK_ap, c1_ap, c1K_ap, c2_ap, c2K_ap, gO_some, c1V_ap, c2V_ap, c2V0_some, c2VK_ap, c2W_ap, c2WK_ap, bl_some, cBin_eq, cNeg_eq, cNot_eq, cCmp_eq, cIsN_eq, cSub_eq, cSubV_eq, cRev_eq, cRevV_eq, cInV_eq, cIsi_eq, cIsiV_eq, cBiV_ap, cChn_ap, chnKx_ap, chnKy_ap, chnK1_ap, chnK2_ap, cAnd_ap, andK_ap, andK2_ap, cOr_ap, orK_val, orK_own, orK2_ap, cIte_ap, iteK_ap, consK_ap, appK_ap, evs_nil, evs_cons, evsK_ap, evI_nil, evI_one, evIK_ap, evIA_ap, evI_star, evIS_ap, seqO_some, evI_starV, seqD_l, seqD_t, cLst_ap, lstK_ap, cTup_ap, tupK_ap, evO_none, someK_ap, evO_some, evOK_ap, intO_i, cSl_ap, slK1_ap, slK2_ap, slK3_ap, cSlV_ap, slV0_some, slVK1_ap, slVK2_ap, cBi_ap, biK_ap, evA_nil, evA_ref, evA0_some, evA_val, evAK_ap, cCall_ap, callK_ap, callK2_ap, back_ret, back_exc, putBack_nil, putBack_ref, putBack_val, atCall_nil, atCall_ref, consO_some, atC0_some, atCall_val, cCallK_ap, callKK_ap, callKK2_ap, perm_nil, tVal_ap, tvK_ap, tAnd_ap, tAndK_ap, tOr_ap, tOrK_ap, tNot_ap, tNotK_ap, iIt_ap, itK_ap, items_l, items_t, iRng1_ap, r1K_ap, iRng2_ap, r2K1_ap, r2K_ap, iZip_ap, zipK1_ap, zipK_ap, zipD_l, zipD_t, iEnm_ap, enmK_ap, enmD_l, enmD_t, sSeq_ap, keep_tv, keep_to, keep_fv, keep_fo, setF_some, sAsg_ap, asgK_ap, nxF_some, sAsgT_ap, asgTK_ap, bindT_nm, bindT_tt, bindT_tl, bindTs_nil, bndK_some, bindTs_cons, evSs_nil, evSs_cons, evSsK_ap, sPar_ap, parK_ap, setPar_nil, parO_some, setPar_cons, sSetIx_ap, sixK_ap, sixK2_some, sixK3_ap, setDN_some, setD_own, sApp_ap, appK0_own, appK2_ap, appD_own, setF_ite, sExp_ap, expK_ap, sIf_ap, ifK_ap, sFor_ap, forK_ap, sWhile_ap, ftK_some, forTurn_ap, retF_some, sRet_ap, retK_ap, sRetN_ap, sBrk_ap, sCont_ap, sPass_ap, cLc_ap, b_add, b_sub, b_mul, b_fdiv, b_mod, b_pow, b_addL, b_addT, b_mulL, b_mulT, n_neg, q_lt, q_le, q_gt, q_ge, q_eq, q_ne, q_eqb, q_neb, c_lt, c_le, c_gt, c_ge, c_eq, t_b, t_i, t_l, t_t, t_n, g_not, i_n, i_b, i_i, i_s, i_l, i_t, g_isn, g_isnn, gi_n, gi_b, gi_i, gi_s, gi_l, gi_t, f_max, f_min, f_abs, f_int, f_intb, f_lenl, f_lent, f_listl, f_listt, f_tupl, f_tupt, f_sum, f_all, f_any, f_sort, f_sortT, g_atl, g_att, s_l, s_t, r_l, List.set_cons_zero, List.set_cons_succ, List.map_cons, List.map_nil, List.nil_append, List.cons_append, Option.map_some, Option.map_none, decide_eq_true_eq, Bool.not_eq_true', decide_eq_false_iff_not, Bool.false_eq_true, if_true, if_false, ite_self, if_false, rep_z, rep_s, lenOk, List.length_cons, List.length_nil]
        · have qe : gCmp .eq (.str (S [c])) (.str (S [43])) = some (.val (.bool false)) := by rw [q_eqS, decide_eq_false (by simp [h43])]
          rw [if_neg h43]
          simp only [optI] at ni nk
          simp only [m_run_in, ts, List.drop_succ_cons, List.drop_zero, nk, ni, a0, sg, g0, qe, optI, cLenI_ap, lenIK_l, lenIK_t, cSs_eq, cPop_ap, popK0_own, popF_some, popK_ap, sExt_ap, extK0_own, extK2_ap, extD_own, gFld_snap, cFld_eq, cPrp_ap, prpK_ap, noX_ok, cMb_ap, mbK_ap, mbK1_ap, mbK2_ap, rc_ixl, rc_spl, rc_joi, cFst_ap, fK0_ap, evF_nil, evF_cons, fK1_ap, fK2_ap, newK_ret, f_sumt, List.isEmpty_nil, List.isEmpty_cons, not_true_eq_false, not_false_eq_true, r_t, perm_cons, permC_some, List.getElem?_cons_zero, List.getElem?_cons_succ, at_0, at_1, at_2, at_3, at_4, at_last, List.length_map, reduceCtorEq, lcTurn_ap, lcK3_ap, lcK2_ap, lcE_some, evC_none, evC_some, wipe_nil, wipe_cons, rest_nil, rest_cons, fw_next, fw_ret, fw_brk, fw_cont, fw_ite, Nat.reduceAdd, Nat.reduceLeDiff, true_and, and_true, and_self, cRg1_ap, rg1K_f, rg1K_t, cRg2_ap, rg2K_ap, rg2K2_f, rg2K2_t, bind_ok, bind_no, bind_exc, bind_ite, opt_some, opt_none, opt_ite, val_okv, val_oko, val_no, val_exc, val_ite, opn_eq, flow_ok, flow_no, flow_exc, flow_ite, seq_next, seq_ret, seq_brk, seq_cont, seq_exc, seq_no, seq_ite, turn_next, turn_ret, turn_brk, turn_cont, turn_exc, turn_ite, done_next, done_ret, done_exc, done_ite, mask_nil, mask_t, mask_f, orNo_some, orNo_none, getS_z, getS_s, cVar_ap, rdV_val, rdV_own, cMov_ap, rdM_val, rdM_own, dat_val, dat_own, datV_eq, datS_val, datS_own, datR_eq, datSR_val, datSR_own, datSR_rd, cCon_ap, cVal_ap, cValK_ap, c1_ap, c1K_ap, c2_ap, c2K_ap, gO_some, c1V_ap, c2V_ap, c2V0_some, c2VK_ap, c2W_ap, c2WK_ap, bl_some, cBin_eq, cNeg_eq, cNot_eq, cCmp_eq, cIsN_eq, cSub_eq, cSubV_eq, cRev_eq, cRevV_eq, cInV_eq, cIsi_eq, cIsiV_eq, cBiV_ap, cChn_ap, chnKx_ap, chnKy_ap, chnK1_ap, chnK2_ap, cAnd_ap, andK_ap, andK2_ap, cOr_ap, orK_val, orK_own, orK2_ap, cIte_ap, iteK_ap, consK_ap, appK_ap, evs_nil, evs_cons, evsK_ap, evI_nil, evI_one, evIK_ap, evIA_ap, evI_star, evIS_ap, seqO_some, evI_starV, seqD_l, seqD_t, cLst_ap, lstK_ap, cTup_ap, tupK_ap, evO_none, someK_ap, evO_some, evOK_ap, intO_i, cSl_ap, slK1_ap, slK2_ap, slK3_ap, cSlV_ap, slV0_some, slVK1_ap, slVK2_ap, cBi_ap, biK_ap, evA_nil, evA_ref, evA0_some, evA_val, evAK_ap, cCall_ap, callK_ap, callK2_ap, back_ret, back_exc, putBack_nil, putBack_ref, putBack_val, atCall_nil, atCall_ref, consO_some, atC0_some, atCall_val, cCallK_ap, callKK_ap, callKK2_ap, perm_nil, tVal_ap, tvK_ap, tAnd_ap, tAndK_ap, tOr_ap, tOrK_ap, tNot_ap, tNotK_ap, iIt_ap, itK_ap, items_l, items_t, iRng1_ap, r1K_ap, iRng2_ap, r2K1_ap, r2K_ap, iZip_ap, zipK1_ap, zipK_ap, zipD_l, zipD_t, iEnm_ap, enmK_ap, enmD_l, enmD_t, sSeq_ap, keep_tv, keep_to, keep_fv, keep_fo, setF_some, sAsg_ap, asgK_ap, nxF_some, sAsgT_ap, asgTK_ap, bindT_nm, bindT_tt, bindT_tl, bindTs_nil, bndK_some, bindTs_cons, evSs_nil, evSs_cons, evSsK_ap, sPar_ap, parK_ap, setPar_nil, parO_some, setPar_cons, sSetIx_ap, sixK_ap, sixK2_some, sixK3_ap, setDN_some, setD_own, sApp_ap, appK0_own, appK2_ap, appD_own, setF_ite, sExp_ap, expK_ap, sIf_ap, ifK_ap, sFor_ap, forK_ap, sWhile_ap, ftK_some, forTurn_ap, retF_some, sRet_ap, retK_ap, sRetN_ap, sBrk_ap, sCont_ap, sPass_ap, cLc_ap, b_add, b_sub, b_mul, b_fdiv, b_mod, b_pow, b_addL, b_addT, b_mulL, b_mulT, n_neg, q_lt, q_le, q_gt, q_ge, q_eq, q_ne, q_eqb, q_neb, c_lt, c_le, c_gt, c_ge, c_eq, t_b, t_i, t_l, t_t, t_n, g_not, i_n, i_b, i_i, i_s, i_l, i_t, g_isn, g_isnn, gi_n, gi_b, gi_i, gi_s, gi_l, gi_t, f_max, f_min, f_abs, f_int, f_intb, f_lenl, f_lent, f_listl, f_listt, f_tupl, f_tupt, f_sum, f_all, f_any, f_sort, f_sortT, g_atl, g_att, s_l, s_t, r_l, List.set_cons_zero, List.set_cons_succ, List.map_cons, List.map_nil, List.nil_append, List.cons_append, Option.map_some, Option.map_none, decide_eq_true_eq, Bool.not_eq_true', decide_eq_false_iff_not, Bool.false_eq_true, if_true, if_false, ite_self, if_false, rep_z, rep_s, lenOk, List.length_cons, List.length_nil]
theorem num_small {i : Int} {m : Nat} (h : i.natAbs < 10 ^ m) (hm : m ≤ 400) : numOk i = true := by
  unfold numOk
  refine decide_eq_true ?_
  by_cases z : i.natAbs = 0
  · rw [z]; decide
  · rw [Nat.log2_lt z]
    have h2 : (10 : Nat) ^ m ≤ (2 ^ 4) ^ m := Nat.pow_le_pow_left (by omega) _
    have h3 : ((2 : Nat) ^ 4) ^ m ≤ 2 ^ 1920 := by rw [← Nat.pow_mul]; exact Nat.pow_le_pow_right (by omega) (by omega)
    omega
theorem strs_S (ws : List (List Nat)) : strsD (ws.map fun w => .str (S w)) = some (ws.map S) := by
  induction ws with
  | nil => rfl
  | cons w ws ih =>
    rw [List.map_cons]
    show (strsD (ws.map fun w => .str (S w))).map (S w :: ·) = _
    rw [ih]; rfl
theorem join_ok (ws : List (List Nat)) {m : Nat} (h : ∀ w ∈ ws, w.length ≤ m) (hs : ws.length * (m + 1) ≤ 16777216) : mbD .join (.str (S [32])) [.list (ws.map fun w => .str (S w))] = some (.val (.str (S (joinL [32] ws)))) := by
  show (match strsD (ws.map fun w => PyData.str (S w)) with
    | some zs => if decide ((zs.map (fun s : PySem.Str => s.length)).sum + zs.length * (S [32]).length ≤ 16777216) = true then some (Ev.Slot.val (.str (S (joinL (cs (S [32])) (zs.map cs))))) else none
    | none => none) = _
  rw [strs_S]
  have hsum : ((ws.map S).map (fun s : PySem.Str => s.length)).sum ≤ ws.length * m := by
    clear hs
    induction ws with
    | nil => simp
    | cons w ws ih =>
      have := ih fun w hw => h w (List.mem_cons_of_mem _ hw)
      have h1 := h w (List.mem_cons_self ..)
      rw [List.map_cons, List.map_cons, List.sum_cons, List.length_cons, Nat.succ_mul, S_len]; omega
  have hl : (ws.map S).length * (S [32]).length = ws.length := by rw [List.length_map, S_len]; simp
  dsimp only
  rw [hl, if_pos (decide_eq_true (by rw [Nat.mul_add, Nat.mul_one] at hs; omega)), cs_S, List.map_map]
  congr 3
  have : (ws.map (cs ∘ S)) = ws := by
    conv => rhs; rw [← List.map_id ws]
    exact List.map_congr_left fun w _ => cs_S w
  rw [this]
theorem split_ok (l : List Nat) (h : l.length + 2 ≤ sizeLine) : mbD .split (.str (S l)) [.str (S [32])] = some (.own ((cut 32 [] l).map fun w => .str (S w))) := by
  show (match cs (S [32]) with
    | [c] => if (decide ((S l).length + 2 ≤ sizeLine) && decide (c < 256)) = true then some (Ev.Slot.own ((cut c [] (cs (S l))).map fun w => PyData.str (S w))) else none
    | _ => none) = _
  rw [cs_S]
  dsimp only
  rw [S_len, cs_S, decide_eq_true h]; rfl
/-- RUNs of at most m figures -/
def Fig (m : Nat) (rs : List Int) : Prop := ∀ r ∈ rs, r ≠ 0 ∧ r.natAbs < 10 ^ m
theorem words_nb {m : Nat} {rs : List Int} (h : Fig m rs) : ∀ w ∈ rs.map runCs, ∀ c ∈ w, c ≠ 32 := by
  intro w hw c hc
  obtain ⟨r, hr, rfl⟩ := List.mem_map.mp hw
  rcases runCs_dig r c hc with rfl | rfl | q
  · decide
  · decide
  · unfold isDig at q; simp at q; omega
theorem text_len {m : Nat} {rs : List Int} (h : Fig m rs) (hm0 : 0 < m) : (joinL [32] (rs.map runCs)).length ≤ rs.length * (m + 2) := by
  have := join_len 32 (m + 1) (rs.map runCs) (fun w hw => by
    obtain ⟨r, hr, rfl⟩ := List.mem_map.mp hw
    exact runCs_len (h r hr).2 hm0)
  rwa [List.length_map] at this
theorem rfrom_ok (n : Nat) (rs : List Int) (hne : rs ≠ []) {m : Nat} (h : Fig m rs) (hm : m ≤ 400) (hm0 : 0 < m) (hl : rs.length ≤ 1000) : call P (n + 3) 2 [.val (.str (S (joinL [32] (rs.map runCs))))] = .ret (.val (.tuple (rs.map .int))) [none] := by
  have tlen := text_len h hm0
  have ml := Nat.mul_le_mul hl (show m + 2 ≤ 402 by omega)
  have sp := split_ok (joinL [32] (rs.map runCs)) (by rw [lenOk]; omega)
  rw [cut_join 32 _ (by simpa using hne) (words_nb h)] at sp
  refine CRw.eq1 (call_fw m_runs_from rfl rfl ?_)
  simp only [m_runs_from, sp, cLenI_ap, lenIK_l, lenIK_t, cSs_eq, cPop_ap, popK0_own, popF_some, popK_ap, sExt_ap, extK0_own, extK2_ap, extD_own, gFld_snap, cFld_eq, cPrp_ap, prpK_ap, noX_ok, cMb_ap, mbK_ap, mbK1_ap, mbK2_ap, rc_ixl, rc_spl, rc_joi, cFst_ap, fK0_ap, evF_nil, evF_cons, fK1_ap, fK2_ap, newK_ret, f_sumt, List.isEmpty_nil, List.isEmpty_cons, not_true_eq_false, not_false_eq_true, r_t, perm_cons, permC_some, List.getElem?_cons_zero, List.getElem?_cons_succ, at_0, at_1, at_2, at_3, at_4, at_last, List.length_map, reduceCtorEq, lcTurn_ap, lcK3_ap, lcK2_ap, lcE_some, evC_none, evC_some, wipe_nil, wipe_cons, rest_nil, rest_cons, fw_next, fw_ret, fw_brk, fw_cont, fw_ite, Nat.reduceAdd, Nat.reduceLeDiff, true_and, and_true, and_self, cRg1_ap, rg1K_f, rg1K_t, cRg2_ap, rg2K_ap, rg2K2_f, rg2K2_t, bind_ok, bind_no, bind_exc, bind_ite, opt_some, opt_none, opt_ite, val_okv, val_oko, val_no, val_exc, val_ite, opn_eq, flow_ok, flow_no, flow_exc, flow_ite, seq_next, seq_ret, seq_brk, seq_cont, seq_exc, seq_no, seq_ite, turn_next, turn_ret, turn_brk, turn_cont, turn_exc, turn_ite, done_next, done_ret, done_exc, done_ite, mask_nil, mask_t, mask_f, orNo_some, orNo_none, getS_z, getS_s, cVar_ap, rdV_val, rdV_own, cMov_ap, rdM_val, rdM_own, dat_val, dat_own, datV_eq, datS_val, datS_own, datR_eq, datSR_val, datSR_own, datSR_rd, cCon_ap, cVal_ap, cValK_ap, c1_ap, c1K_ap, c2_ap, c2K_ap, gO_some, c1V_ap, c2V_ap, c2V0_some, c2VK_ap, c2W_ap, c2WK_ap, bl_some, cBin_eq, cNeg_eq, cNot_eq, cCmp_eq, cIsN_eq, cSub_eq, cSubV_eq, cRev_eq, cRevV_eq, cInV_eq, cIsi_eq, cIsiV_eq, cBiV_ap, cChn_ap, chnKx_ap, chnKy_ap, chnK1_ap, chnK2_ap, cAnd_ap, andK_ap, andK2_ap, cOr_ap, orK_val, orK_own, orK2_ap, cIte_ap, iteK_ap, consK_ap, appK_ap, evs_nil, evs_cons, evsK_ap, evI_nil, evI_one, evIK_ap, evIA_ap, evI_star, evIS_ap, seqO_some, evI_starV, seqD_l, seqD_t, cLst_ap, lstK_ap, cTup_ap, tupK_ap, evO_none, someK_ap, evO_some, evOK_ap, intO_i, cSl_ap, slK1_ap, slK2_ap, slK3_ap, cSlV_ap, slV0_some, slVK1_ap, slVK2_ap, cBi_ap, biK_ap, evA_nil, evA_ref, evA0_some, evA_val, evAK_ap, cCall_ap, callK_ap, callK2_ap, back_ret, back_exc, putBack_nil, putBack_ref, putBack_val, atCall_nil, atCall_ref, consO_some, atC0_some, atCall_val, cCallK_ap, callKK_ap, callKK2_ap, perm_nil, tVal_ap, tvK_ap, tAnd_ap, tAndK_ap, tOr_ap, tOrK_ap, tNot_ap, tNotK_ap, iIt_ap, itK_ap, items_l, items_t, iRng1_ap, r1K_ap, iRng2_ap, r2K1_ap, r2K_ap, iZip_ap, zipK1_ap, zipK_ap, zipD_l, zipD_t, iEnm_ap, enmK_ap, enmD_l, enmD_t, sSeq_ap, keep_tv, keep_to, keep_fv, keep_fo, setF_some, sAsg_ap, asgK_ap, nxF_some, sAsgT_ap, asgTK_ap, bindT_nm, bindT_tt, bindT_tl, bindTs_nil, bndK_some, bindTs_cons, evSs_nil, evSs_cons, evSsK_ap, sPar_ap, parK_ap, setPar_nil, parO_some, setPar_cons, sSetIx_ap, sixK_ap, sixK2_some, sixK3_ap, setDN_some, setD_own, sApp_ap, appK0_own, appK2_ap, appD_own, setF_ite, sExp_ap, expK_ap, sIf_ap, ifK_ap, sFor_ap, forK_ap, sWhile_ap, ftK_some, forTurn_ap, retF_some, sRet_ap, retK_ap, sRetN_ap, sBrk_ap, sCont_ap, sPass_ap, cLc_ap, b_add, b_sub, b_mul, b_fdiv, b_mod, b_pow, b_addL, b_addT, b_mulL, b_mulT, n_neg, q_lt, q_le, q_gt, q_ge, q_eq, q_ne, q_eqb, q_neb, c_lt, c_le, c_gt, c_ge, c_eq, t_b, t_i, t_l, t_t, t_n, g_not, i_n, i_b, i_i, i_s, i_l, i_t, g_isn, g_isnn, gi_n, gi_b, gi_i, gi_s, gi_l, gi_t, f_max, f_min, f_abs, f_int, f_intb, f_lenl, f_lent, f_listl, f_listt, f_tupl, f_tupt, f_sum, f_all, f_any, f_sort, f_sortT, g_atl, g_att, s_l, s_t, r_l, List.set_cons_zero, List.set_cons_succ, List.map_cons, List.map_nil, List.nil_append, List.cons_append, Option.map_some, Option.map_none, decide_eq_true_eq, Bool.not_eq_true', decide_eq_false_iff_not, Bool.false_eq_true, if_true, if_false, ite_self, if_false, rep_z, rep_s, lenOk, List.length_cons, List.length_nil]
  refine for_fw (fun i e => ∃ o2 o3 o4, e = [some (.val (.str (S (joinL [32] (rs.map runCs))))), some (.own ((rs.take i).map .int)), o2, o3, o4]) ⟨none, none, none, rfl⟩ ?_ ?_
  · rintro i x e hx ⟨o2, o3, o4, rfl⟩
    rw [enm_get, List.getElem?_map, List.getElem?_map] at hx
    cases hr : rs[i]? with
    | none => rw [hr] at hx; cases hx
    | some r =>
      rw [hr] at hx
      cases hx
      have hm1 := List.mem_of_getElem? hr
      have hi : i < rs.length := (List.getElem?_eq_some_iff.mp hr).1
      have wl := runCs_len (h r hm1).2 hm0
      have q := runin_ok n (runCs r) (runCs_ne r) (by omega)
      rw [runZ_run (h r hm1).1] at q
      have ht : rs.take (i + 1) = rs.take i ++ [r] := by rw [List.take_add_one, hr]; rfl
      rw [ht, List.map_append, List.map_cons, List.map_nil]
      have nw : gCmp .ne (.str (S (runCs r))) (.str (S [])) = some (.val (.bool true)) := by rw [q_neS, decide_eq_false (runCs_ne r)]; rfl
      have tl1 : (rs.take i).length < 16777216 := by rw [List.length_take]; omega
      simp only [optI] at q
      simp only [nw, q, tl1, List.length_map, cLenI_ap, lenIK_l, lenIK_t, cSs_eq, cPop_ap, popK0_own, popF_some, popK_ap, sExt_ap, extK0_own, extK2_ap, extD_own, gFld_snap, cFld_eq, cPrp_ap, prpK_ap, noX_ok, cMb_ap, mbK_ap, mbK1_ap, mbK2_ap, rc_ixl, rc_spl, rc_joi, cFst_ap, fK0_ap, evF_nil, evF_cons, fK1_ap, fK2_ap, newK_ret, f_sumt, List.isEmpty_nil, List.isEmpty_cons, not_true_eq_false, not_false_eq_true, r_t, perm_cons, permC_some, List.getElem?_cons_zero, List.getElem?_cons_succ, at_0, at_1, at_2, at_3, at_4, at_last, List.length_map, reduceCtorEq, lcTurn_ap, lcK3_ap, lcK2_ap, lcE_some, evC_none, evC_some, wipe_nil, wipe_cons, rest_nil, rest_cons, fw_next, fw_ret, fw_brk, fw_cont, fw_ite, Nat.reduceAdd, Nat.reduceLeDiff, true_and, and_true, and_self, cRg1_ap, rg1K_f, rg1K_t, cRg2_ap, rg2K_ap, rg2K2_f, rg2K2_t, bind_ok, bind_no, bind_exc, bind_ite, opt_some, opt_none, opt_ite, val_okv, val_oko, val_no, val_exc, val_ite, opn_eq, flow_ok, flow_no, flow_exc, flow_ite, seq_next, seq_ret, seq_brk, seq_cont, seq_exc, seq_no, seq_ite, turn_next, turn_ret, turn_brk, turn_cont, turn_exc, turn_ite, done_next, done_ret, done_exc, done_ite, mask_nil, mask_t, mask_f, orNo_some, orNo_none, getS_z, getS_s, cVar_ap, rdV_val, rdV_own, cMov_ap, rdM_val, rdM_own, dat_val, dat_own, datV_eq, datS_val, datS_own, datR_eq, datSR_val, datSR_own, datSR_rd, cCon_ap, cVal_ap, cValK_ap, c1_ap, c1K_ap, c2_ap, c2K_ap, gO_some, c1V_ap, c2V_ap, c2V0_some, c2VK_ap, c2W_ap, c2WK_ap, bl_some, cBin_eq, cNeg_eq, cNot_eq, cCmp_eq, cIsN_eq, cSub_eq, cSubV_eq, cRev_eq, cRevV_eq, cInV_eq, cIsi_eq, cIsiV_eq, cBiV_ap, cChn_ap, chnKx_ap, chnKy_ap, chnK1_ap, chnK2_ap, cAnd_ap, andK_ap, andK2_ap, cOr_ap, orK_val, orK_own, orK2_ap, cIte_ap, iteK_ap, consK_ap, appK_ap, evs_nil, evs_cons, evsK_ap, evI_nil, evI_one, evIK_ap, evIA_ap, evI_star, evIS_ap, seqO_some, evI_starV, seqD_l, seqD_t, cLst_ap, lstK_ap, cTup_ap, tupK_ap, evO_none, someK_ap, evO_some, evOK_ap, intO_i, cSl_ap, slK1_ap, slK2_ap, slK3_ap, cSlV_ap, slV0_some, slVK1_ap, slVK2_ap, cBi_ap, biK_ap, evA_nil, evA_ref, evA0_some, evA_val, evAK_ap, cCall_ap, callK_ap, callK2_ap, back_ret, back_exc, putBack_nil, putBack_ref, putBack_val, atCall_nil, atCall_ref, consO_some, atC0_some, atCall_val, cCallK_ap, callKK_ap, callKK2_ap, perm_nil, tVal_ap, tvK_ap, tAnd_ap, tAndK_ap, tOr_ap, tOrK_ap, tNot_ap, tNotK_ap, iIt_ap, itK_ap, items_l, items_t, iRng1_ap, r1K_ap, iRng2_ap, r2K1_ap, r2K_ap, iZip_ap, zipK1_ap, zipK_ap, zipD_l, zipD_t, iEnm_ap, enmK_ap, enmD_l, enmD_t, sSeq_ap, keep_tv, keep_to, keep_fv, keep_fo, setF_some, sAsg_ap, asgK_ap, nxF_some, sAsgT_ap, asgTK_ap, bindT_nm, bindT_tt, bindT_tl, bindTs_nil, bndK_some, bindTs_cons, evSs_nil, evSs_cons, evSsK_ap, sPar_ap, parK_ap, setPar_nil, parO_some, setPar_cons, sSetIx_ap, sixK_ap, sixK2_some, sixK3_ap, setDN_some, setD_own, sApp_ap, appK0_own, appK2_ap, appD_own, setF_ite, sExp_ap, expK_ap, sIf_ap, ifK_ap, sFor_ap, forK_ap, sWhile_ap, ftK_some, forTurn_ap, retF_some, sRet_ap, retK_ap, sRetN_ap, sBrk_ap, sCont_ap, sPass_ap, cLc_ap, b_add, b_sub, b_mul, b_fdiv, b_mod, b_pow, b_addL, b_addT, b_mulL, b_mulT, n_neg, q_lt, q_le, q_gt, q_ge, q_eq, q_ne, q_eqb, q_neb, c_lt, c_le, c_gt, c_ge, c_eq, t_b, t_i, t_l, t_t, t_n, g_not, i_n, i_b, i_i, i_s, i_l, i_t, g_isn, g_isnn, gi_n, gi_b, gi_i, gi_s, gi_l, gi_t, f_max, f_min, f_abs, f_int, f_intb, f_lenl, f_lent, f_listl, f_listt, f_tupl, f_tupt, f_sum, f_all, f_any, f_sort, f_sortT, g_atl, g_att, s_l, s_t, r_l, List.set_cons_zero, List.set_cons_succ, List.map_cons, List.map_nil, List.nil_append, List.cons_append, Option.map_some, Option.map_none, decide_eq_true_eq, Bool.not_eq_true', decide_eq_false_iff_not, Bool.false_eq_true, if_true, if_false, ite_self, if_false, rep_z, rep_s, lenOk, List.length_cons, List.length_nil]
      exact ⟨_, _, _, rfl⟩
  · rintro e ⟨o2, o3, o4, rfl⟩
    rw [enm_len, List.length_map, List.length_map, List.take_length]
    simp only [cLenI_ap, lenIK_l, lenIK_t, cSs_eq, cPop_ap, popK0_own, popF_some, popK_ap, sExt_ap, extK0_own, extK2_ap, extD_own, gFld_snap, cFld_eq, cPrp_ap, prpK_ap, noX_ok, cMb_ap, mbK_ap, mbK1_ap, mbK2_ap, rc_ixl, rc_spl, rc_joi, cFst_ap, fK0_ap, evF_nil, evF_cons, fK1_ap, fK2_ap, newK_ret, f_sumt, List.isEmpty_nil, List.isEmpty_cons, not_true_eq_false, not_false_eq_true, r_t, perm_cons, permC_some, List.getElem?_cons_zero, List.getElem?_cons_succ, at_0, at_1, at_2, at_3, at_4, at_last, List.length_map, reduceCtorEq, lcTurn_ap, lcK3_ap, lcK2_ap, lcE_some, evC_none, evC_some, wipe_nil, wipe_cons, rest_nil, rest_cons, fw_next, fw_ret, fw_brk, fw_cont, fw_ite, Nat.reduceAdd, Nat.reduceLeDiff, true_and, and_true, and_self, cRg1_ap, rg1K_f, rg1K_t, cRg2_ap, rg2K_ap, rg2K2_f, rg2K2_t, bind_ok, bind_no, bind_exc, bind_ite, opt_some, opt_none, opt_ite, val_okv, val_oko, val_no, val_exc, val_ite, opn_eq, flow_ok, flow_no, flow_exc, flow_ite, seq_next, seq_ret, seq_brk, seq_cont, seq_exc, seq_no, seq_ite, turn_next, turn_ret, turn_brk, turn_cont, turn_exc, turn_ite, done_next, done_ret, done_exc, done_ite, mask_nil, mask_t, mask_f, orNo_some, orNo_none, getS_z, getS_s, cVar_ap, rdV_val, rdV_own, cMov_ap, rdM_val, rdM_own, dat_val, dat_own, datV_eq, datS_val, datS_own, datR_eq, datSR_val, datSR_own, datSR_rd, cCon_ap, cVal_ap, cValK_ap, c1_ap, c1K_ap, c2_ap, c2K_ap, gO_some, c1V_ap, c2V_ap, c2V0_some, c2VK_ap, c2W_ap, c2WK_ap, bl_some, cBin_eq, cNeg_eq, cNot_eq, cCmp_eq, cIsN_eq, cSub_eq, cSubV_eq, cRev_eq, cRevV_eq, cInV_eq, cIsi_eq, cIsiV_eq, cBiV_ap, cChn_ap, chnKx_ap, chnKy_ap, chnK1_ap, chnK2_ap, cAnd_ap, andK_ap, andK2_ap, cOr_ap, orK_val, orK_own, orK2_ap, cIte_ap, iteK_ap, consK_ap, appK_ap, evs_nil, evs_cons, evsK_ap, evI_nil, evI_one, evIK_ap, evIA_ap, evI_star, evIS_ap, seqO_some, evI_starV, seqD_l, seqD_t, cLst_ap, lstK_ap, cTup_ap, tupK_ap, evO_none, someK_ap, evO_some, evOK_ap, intO_i, cSl_ap, slK1_ap, slK2_ap, slK3_ap, cSlV_ap, slV0_some, slVK1_ap, slVK2_ap, cBi_ap, biK_ap, evA_nil, evA_ref, evA0_some, evA_val, evAK_ap, cCall_ap, callK_ap, callK2_ap, back_ret, back_exc, putBack_nil, putBack_ref, putBack_val, atCall_nil, atCall_ref, consO_some, atC0_some, atCall_val, cCallK_ap, callKK_ap, callKK2_ap, perm_nil, tVal_ap, tvK_ap, tAnd_ap, tAndK_ap, tOr_ap, tOrK_ap, tNot_ap, tNotK_ap, iIt_ap, itK_ap, items_l, items_t, iRng1_ap, r1K_ap, iRng2_ap, r2K1_ap, r2K_ap, iZip_ap, zipK1_ap, zipK_ap, zipD_l, zipD_t, iEnm_ap, enmK_ap, enmD_l, enmD_t, sSeq_ap, keep_tv, keep_to, keep_fv, keep_fo, setF_some, sAsg_ap, asgK_ap, nxF_some, sAsgT_ap, asgTK_ap, bindT_nm, bindT_tt, bindT_tl, bindTs_nil, bndK_some, bindTs_cons, evSs_nil, evSs_cons, evSsK_ap, sPar_ap, parK_ap, setPar_nil, parO_some, setPar_cons, sSetIx_ap, sixK_ap, sixK2_some, sixK3_ap, setDN_some, setD_own, sApp_ap, appK0_own, appK2_ap, appD_own, setF_ite, sExp_ap, expK_ap, sIf_ap, ifK_ap, sFor_ap, forK_ap, sWhile_ap, ftK_some, forTurn_ap, retF_some, sRet_ap, retK_ap, sRetN_ap, sBrk_ap, sCont_ap, sPass_ap, cLc_ap, b_add, b_sub, b_mul, b_fdiv, b_mod, b_pow, b_addL, b_addT, b_mulL, b_mulT, n_neg, q_lt, q_le, q_gt, q_ge, q_eq, q_ne, q_eqb, q_neb, c_lt, c_le, c_gt, c_ge, c_eq, t_b, t_i, t_l, t_t, t_n, g_not, i_n, i_b, i_i, i_s, i_l, i_t, g_isn, g_isnn, gi_n, gi_b, gi_i, gi_s, gi_l, gi_t, f_max, f_min, f_abs, f_int, f_intb, f_lenl, f_lent, f_listl, f_listt, f_tupl, f_tupt, f_sum, f_all, f_any, f_sort, f_sortT, g_atl, g_att, s_l, s_t, r_l, List.set_cons_zero, List.set_cons_succ, List.map_cons, List.map_nil, List.nil_append, List.cons_append, Option.map_some, Option.map_none, decide_eq_true_eq, Bool.not_eq_true', decide_eq_false_iff_not, Bool.false_eq_true, if_true, if_false, ite_self, if_false, rep_z, rep_s, lenOk, List.length_cons, List.length_nil]
theorem row_ok (n : Nat) {B most : Int} {bx : List D} (hB : B < 2 ^ 49) (h : Box B bx) (m1 : 0 < most) (m2 : most ≤ 100) :
    ∃ rs bx', call P (n + 3) 8 [.own bx, .val (I most)] = .ret (.val (.tuple (rs.map .int))) [some (.own bx'), none] ∧ (rs ≠ [] ∧ (rs.length : Int) ≤ most ∧ Fig 30 rs) ∧ Box (B + 300) bx' := by
  have d1 : divOk most = true := div_ok m1 (Int.lt_of_le_of_lt m2 (by decide +kernel))
  have d9 : divOk 9 = true := by decide +kernel
  have d2 : divOk 2 = true := by decide +kernel
  have p29 : powOk 10 29 = true := by decide +kernel
  have p29' : (10 : Int) ^ (29 : Int).toNat = 100000000000000000000000000000 := by decide +kernel
  have key : CRw (call P (n + 3) 8 [.own bx, .val (I most)]) fun s ps => ∃ rs bx', s = .val (.tuple (rs.map .int)) ∧ ps = [some (.own bx'), none] ∧ (rs ≠ [] ∧ (rs.length : Int) ≤ most ∧ Fig 30 rs) ∧ Box (B + 300) bx' := by
    obtain ⟨w, bx0, ht0, w1, w2, hb0⟩ := take_ok (n + 1) (s := 9) (by omega) (by omega) d9 h
    obtain ⟨v, bx1, ht, v1, v2, hb1⟩ := take_ok (n + 1) (by omega) m1 d1 hb0
    refine call_fw m__law_row rfl rfl ?_
    simp only [m__law_row, p29, p29', ht0, ht, rng_ok (show -(2 ^ 62) ≤ 1 + v by omega) (show 1 + v < 2 ^ 62 by omega), show (0 : Nat) + 1 + 1 + 1 + 1 + 1 + 1 + 1 ≤ 16777216 by omega, cLenI_ap, lenIK_l, lenIK_t, cSs_eq, cPop_ap, popK0_own, popF_some, popK_ap, sExt_ap, extK0_own, extK2_ap, extD_own, gFld_snap, cFld_eq, cPrp_ap, prpK_ap, noX_ok, cMb_ap, mbK_ap, mbK1_ap, mbK2_ap, rc_ixl, rc_spl, rc_joi, cFst_ap, fK0_ap, evF_nil, evF_cons, fK1_ap, fK2_ap, newK_ret, f_sumt, List.isEmpty_nil, List.isEmpty_cons, not_true_eq_false, not_false_eq_true, r_t, perm_cons, permC_some, List.getElem?_cons_zero, List.getElem?_cons_succ, at_0, at_1, at_2, at_3, at_4, at_last, List.length_map, reduceCtorEq, lcTurn_ap, lcK3_ap, lcK2_ap, lcE_some, evC_none, evC_some, wipe_nil, wipe_cons, rest_nil, rest_cons, fw_next, fw_ret, fw_brk, fw_cont, fw_ite, Nat.reduceAdd, Nat.reduceLeDiff, true_and, and_true, and_self, cRg1_ap, rg1K_f, rg1K_t, cRg2_ap, rg2K_ap, rg2K2_f, rg2K2_t, bind_ok, bind_no, bind_exc, bind_ite, opt_some, opt_none, opt_ite, val_okv, val_oko, val_no, val_exc, val_ite, opn_eq, flow_ok, flow_no, flow_exc, flow_ite, seq_next, seq_ret, seq_brk, seq_cont, seq_exc, seq_no, seq_ite, turn_next, turn_ret, turn_brk, turn_cont, turn_exc, turn_ite, done_next, done_ret, done_exc, done_ite, mask_nil, mask_t, mask_f, orNo_some, orNo_none, getS_z, getS_s, cVar_ap, rdV_val, rdV_own, cMov_ap, rdM_val, rdM_own, dat_val, dat_own, datV_eq, datS_val, datS_own, datR_eq, datSR_val, datSR_own, datSR_rd, cCon_ap, cVal_ap, cValK_ap, c1_ap, c1K_ap, c2_ap, c2K_ap, gO_some, c1V_ap, c2V_ap, c2V0_some, c2VK_ap, c2W_ap, c2WK_ap, bl_some, cBin_eq, cNeg_eq, cNot_eq, cCmp_eq, cIsN_eq, cSub_eq, cSubV_eq, cRev_eq, cRevV_eq, cInV_eq, cIsi_eq, cIsiV_eq, cBiV_ap, cChn_ap, chnKx_ap, chnKy_ap, chnK1_ap, chnK2_ap, cAnd_ap, andK_ap, andK2_ap, cOr_ap, orK_val, orK_own, orK2_ap, cIte_ap, iteK_ap, consK_ap, appK_ap, evs_nil, evs_cons, evsK_ap, evI_nil, evI_one, evIK_ap, evIA_ap, evI_star, evIS_ap, seqO_some, evI_starV, seqD_l, seqD_t, cLst_ap, lstK_ap, cTup_ap, tupK_ap, evO_none, someK_ap, evO_some, evOK_ap, intO_i, cSl_ap, slK1_ap, slK2_ap, slK3_ap, cSlV_ap, slV0_some, slVK1_ap, slVK2_ap, cBi_ap, biK_ap, evA_nil, evA_ref, evA0_some, evA_val, evAK_ap, cCall_ap, callK_ap, callK2_ap, back_ret, back_exc, putBack_nil, putBack_ref, putBack_val, atCall_nil, atCall_ref, consO_some, atC0_some, atCall_val, cCallK_ap, callKK_ap, callKK2_ap, perm_nil, tVal_ap, tvK_ap, tAnd_ap, tAndK_ap, tOr_ap, tOrK_ap, tNot_ap, tNotK_ap, iIt_ap, itK_ap, items_l, items_t, iRng1_ap, r1K_ap, iRng2_ap, r2K1_ap, r2K_ap, iZip_ap, zipK1_ap, zipK_ap, zipD_l, zipD_t, iEnm_ap, enmK_ap, enmD_l, enmD_t, sSeq_ap, keep_tv, keep_to, keep_fv, keep_fo, setF_some, sAsg_ap, asgK_ap, nxF_some, sAsgT_ap, asgTK_ap, bindT_nm, bindT_tt, bindT_tl, bindTs_nil, bndK_some, bindTs_cons, evSs_nil, evSs_cons, evSsK_ap, sPar_ap, parK_ap, setPar_nil, parO_some, setPar_cons, sSetIx_ap, sixK_ap, sixK2_some, sixK3_ap, setDN_some, setD_own, sApp_ap, appK0_own, appK2_ap, appD_own, setF_ite, sExp_ap, expK_ap, sIf_ap, ifK_ap, sFor_ap, forK_ap, sWhile_ap, ftK_some, forTurn_ap, retF_some, sRet_ap, retK_ap, sRetN_ap, sBrk_ap, sCont_ap, sPass_ap, cLc_ap, b_add, b_sub, b_mul, b_fdiv, b_mod, b_pow, b_addL, b_addT, b_mulL, b_mulT, n_neg, q_lt, q_le, q_gt, q_ge, q_eq, q_ne, q_eqb, q_neb, c_lt, c_le, c_gt, c_ge, c_eq, t_b, t_i, t_l, t_t, t_n, g_not, i_n, i_b, i_i, i_s, i_l, i_t, g_isn, g_isnn, gi_n, gi_b, gi_i, gi_s, gi_l, gi_t, f_max, f_min, f_abs, f_int, f_intb, f_lenl, f_lent, f_listl, f_listt, f_tupl, f_tupt, f_sum, f_all, f_any, f_sort, f_sortT, g_atl, g_att, s_l, s_t, r_l, List.set_cons_zero, List.set_cons_succ, List.map_cons, List.map_nil, List.nil_append, List.cons_append, Option.map_some, Option.map_none, decide_eq_true_eq, Bool.not_eq_true', decide_eq_false_iff_not, Bool.false_eq_true, if_true, if_false, ite_self, if_false, rep_z, rep_s, lenOk, List.length_cons, List.length_nil]
    refine for_fw (fun i e => ∃ (rs : List Int) (bx : List D) (o : Option Ev.Slot), e = [some (.own bx), some (.val (I most)), some (.val (.list [I 1, I 1, I 2, I 3, I 5, I 9, I (100000000000000000000000000000 + w)])), some (.own (rs.map .int)), o] ∧ rs.length = i ∧ Fig 30 rs ∧ Box (B + 2 + 2 * i) bx) ⟨[], bx1, none, rfl, rfl, (fun r hr => by cases hr), hb1.mono (by omega)⟩ ?_ ?_
    · rintro i x e hx ⟨rs, bx2, o, rfl, hl, hr, hb2⟩
      obtain ⟨rfl, hi⟩ := rng_get hx
      have hi2 : (i : Int) ≤ 100 := by omega
      obtain ⟨gd, bx3, ht3, e3, hb3⟩ := of_ok n (by omega) [I 1, I 1, I 2, I 3, I 5, I 9, I (100000000000000000000000000000 + w)] (by simp) (by show 7 ≤ 16777216; omega) hb2 _ (.inr (.inl rfl))
      obtain ⟨g, rfl, g1, g2⟩ : ∃ g : Int, gd = I g ∧ 0 < g ∧ g < 1000000000000000000000000000000 := by
        simp only [List.mem_cons, List.not_mem_nil, or_false] at e3
        rcases e3 with rfl | rfl | rfl | rfl | rfl | rfl | rfl <;> exact ⟨_, rfl, by omega, by omega⟩
      obtain ⟨u, bx4, ht4, u1, u2, hb4⟩ := take_ok (n + 1) (s := 2) (by omega) (by omega) d2 hb3
      have hl2 : rs.length < 16777216 := by omega
      have hm : mulOk g (1 - 2 * u) = true := mul_r (by omega) (by omega)
      have hm2 : mulOk 2 u = true := mul_l (by omega) (by omega)
      simp only [ht3, ht4, hm, hm2, hl2, List.length_map, cLenI_ap, lenIK_l, lenIK_t, cSs_eq, cPop_ap, popK0_own, popF_some, popK_ap, sExt_ap, extK0_own, extK2_ap, extD_own, gFld_snap, cFld_eq, cPrp_ap, prpK_ap, noX_ok, cMb_ap, mbK_ap, mbK1_ap, mbK2_ap, rc_ixl, rc_spl, rc_joi, cFst_ap, fK0_ap, evF_nil, evF_cons, fK1_ap, fK2_ap, newK_ret, f_sumt, List.isEmpty_nil, List.isEmpty_cons, not_true_eq_false, not_false_eq_true, r_t, perm_cons, permC_some, List.getElem?_cons_zero, List.getElem?_cons_succ, at_0, at_1, at_2, at_3, at_4, at_last, List.length_map, reduceCtorEq, lcTurn_ap, lcK3_ap, lcK2_ap, lcE_some, evC_none, evC_some, wipe_nil, wipe_cons, rest_nil, rest_cons, fw_next, fw_ret, fw_brk, fw_cont, fw_ite, Nat.reduceAdd, Nat.reduceLeDiff, true_and, and_true, and_self, cRg1_ap, rg1K_f, rg1K_t, cRg2_ap, rg2K_ap, rg2K2_f, rg2K2_t, bind_ok, bind_no, bind_exc, bind_ite, opt_some, opt_none, opt_ite, val_okv, val_oko, val_no, val_exc, val_ite, opn_eq, flow_ok, flow_no, flow_exc, flow_ite, seq_next, seq_ret, seq_brk, seq_cont, seq_exc, seq_no, seq_ite, turn_next, turn_ret, turn_brk, turn_cont, turn_exc, turn_ite, done_next, done_ret, done_exc, done_ite, mask_nil, mask_t, mask_f, orNo_some, orNo_none, getS_z, getS_s, cVar_ap, rdV_val, rdV_own, cMov_ap, rdM_val, rdM_own, dat_val, dat_own, datV_eq, datS_val, datS_own, datR_eq, datSR_val, datSR_own, datSR_rd, cCon_ap, cVal_ap, cValK_ap, c1_ap, c1K_ap, c2_ap, c2K_ap, gO_some, c1V_ap, c2V_ap, c2V0_some, c2VK_ap, c2W_ap, c2WK_ap, bl_some, cBin_eq, cNeg_eq, cNot_eq, cCmp_eq, cIsN_eq, cSub_eq, cSubV_eq, cRev_eq, cRevV_eq, cInV_eq, cIsi_eq, cIsiV_eq, cBiV_ap, cChn_ap, chnKx_ap, chnKy_ap, chnK1_ap, chnK2_ap, cAnd_ap, andK_ap, andK2_ap, cOr_ap, orK_val, orK_own, orK2_ap, cIte_ap, iteK_ap, consK_ap, appK_ap, evs_nil, evs_cons, evsK_ap, evI_nil, evI_one, evIK_ap, evIA_ap, evI_star, evIS_ap, seqO_some, evI_starV, seqD_l, seqD_t, cLst_ap, lstK_ap, cTup_ap, tupK_ap, evO_none, someK_ap, evO_some, evOK_ap, intO_i, cSl_ap, slK1_ap, slK2_ap, slK3_ap, cSlV_ap, slV0_some, slVK1_ap, slVK2_ap, cBi_ap, biK_ap, evA_nil, evA_ref, evA0_some, evA_val, evAK_ap, cCall_ap, callK_ap, callK2_ap, back_ret, back_exc, putBack_nil, putBack_ref, putBack_val, atCall_nil, atCall_ref, consO_some, atC0_some, atCall_val, cCallK_ap, callKK_ap, callKK2_ap, perm_nil, tVal_ap, tvK_ap, tAnd_ap, tAndK_ap, tOr_ap, tOrK_ap, tNot_ap, tNotK_ap, iIt_ap, itK_ap, items_l, items_t, iRng1_ap, r1K_ap, iRng2_ap, r2K1_ap, r2K_ap, iZip_ap, zipK1_ap, zipK_ap, zipD_l, zipD_t, iEnm_ap, enmK_ap, enmD_l, enmD_t, sSeq_ap, keep_tv, keep_to, keep_fv, keep_fo, setF_some, sAsg_ap, asgK_ap, nxF_some, sAsgT_ap, asgTK_ap, bindT_nm, bindT_tt, bindT_tl, bindTs_nil, bndK_some, bindTs_cons, evSs_nil, evSs_cons, evSsK_ap, sPar_ap, parK_ap, setPar_nil, parO_some, setPar_cons, sSetIx_ap, sixK_ap, sixK2_some, sixK3_ap, setDN_some, setD_own, sApp_ap, appK0_own, appK2_ap, appD_own, setF_ite, sExp_ap, expK_ap, sIf_ap, ifK_ap, sFor_ap, forK_ap, sWhile_ap, ftK_some, forTurn_ap, retF_some, sRet_ap, retK_ap, sRetN_ap, sBrk_ap, sCont_ap, sPass_ap, cLc_ap, b_add, b_sub, b_mul, b_fdiv, b_mod, b_pow, b_addL, b_addT, b_mulL, b_mulT, n_neg, q_lt, q_le, q_gt, q_ge, q_eq, q_ne, q_eqb, q_neb, c_lt, c_le, c_gt, c_ge, c_eq, t_b, t_i, t_l, t_t, t_n, g_not, i_n, i_b, i_i, i_s, i_l, i_t, g_isn, g_isnn, gi_n, gi_b, gi_i, gi_s, gi_l, gi_t, f_max, f_min, f_abs, f_int, f_intb, f_lenl, f_lent, f_listl, f_listt, f_tupl, f_tupt, f_sum, f_all, f_any, f_sort, f_sortT, g_atl, g_att, s_l, s_t, r_l, List.set_cons_zero, List.set_cons_succ, List.map_cons, List.map_nil, List.nil_append, List.cons_append, Option.map_some, Option.map_none, decide_eq_true_eq, Bool.not_eq_true', decide_eq_false_iff_not, Bool.false_eq_true, if_true, if_false, ite_self, if_false, rep_z, rep_s, lenOk, List.length_cons, List.length_nil]
      refine ⟨rs ++ [g * (1 - 2 * u)], bx4, _, by simp only [List.map_append, List.map_cons, List.map_nil]; rfl, by simp [hl], ?_, hb4.mono (by omega)⟩
      intro r hr'
      rcases List.mem_append.mp hr' with q | q
      · exact hr r q
      · cases List.mem_singleton.mp q
        have e30 : (10 : Nat) ^ 30 = 1000000000000000000000000000000 := by decide +kernel
        rw [e30]
        have hu : u = 0 ∨ u = 1 := by omega
        rcases hu with rfl | rfl <;> omega
    · rintro e ⟨rs, bx2, o, rfl, hl, hr, hb2⟩
      rw [rngL_len] at hl hb2
      simp only [cLenI_ap, lenIK_l, lenIK_t, cSs_eq, cPop_ap, popK0_own, popF_some, popK_ap, sExt_ap, extK0_own, extK2_ap, extD_own, gFld_snap, cFld_eq, cPrp_ap, prpK_ap, noX_ok, cMb_ap, mbK_ap, mbK1_ap, mbK2_ap, rc_ixl, rc_spl, rc_joi, cFst_ap, fK0_ap, evF_nil, evF_cons, fK1_ap, fK2_ap, newK_ret, f_sumt, List.isEmpty_nil, List.isEmpty_cons, not_true_eq_false, not_false_eq_true, r_t, perm_cons, permC_some, List.getElem?_cons_zero, List.getElem?_cons_succ, at_0, at_1, at_2, at_3, at_4, at_last, List.length_map, reduceCtorEq, lcTurn_ap, lcK3_ap, lcK2_ap, lcE_some, evC_none, evC_some, wipe_nil, wipe_cons, rest_nil, rest_cons, fw_next, fw_ret, fw_brk, fw_cont, fw_ite, Nat.reduceAdd, Nat.reduceLeDiff, true_and, and_true, and_self, cRg1_ap, rg1K_f, rg1K_t, cRg2_ap, rg2K_ap, rg2K2_f, rg2K2_t, bind_ok, bind_no, bind_exc, bind_ite, opt_some, opt_none, opt_ite, val_okv, val_oko, val_no, val_exc, val_ite, opn_eq, flow_ok, flow_no, flow_exc, flow_ite, seq_next, seq_ret, seq_brk, seq_cont, seq_exc, seq_no, seq_ite, turn_next, turn_ret, turn_brk, turn_cont, turn_exc, turn_ite, done_next, done_ret, done_exc, done_ite, mask_nil, mask_t, mask_f, orNo_some, orNo_none, getS_z, getS_s, cVar_ap, rdV_val, rdV_own, cMov_ap, rdM_val, rdM_own, dat_val, dat_own, datV_eq, datS_val, datS_own, datR_eq, datSR_val, datSR_own, datSR_rd, cCon_ap, cVal_ap, cValK_ap, c1_ap, c1K_ap, c2_ap, c2K_ap, gO_some, c1V_ap, c2V_ap, c2V0_some, c2VK_ap, c2W_ap, c2WK_ap, bl_some, cBin_eq, cNeg_eq, cNot_eq, cCmp_eq, cIsN_eq, cSub_eq, cSubV_eq, cRev_eq, cRevV_eq, cInV_eq, cIsi_eq, cIsiV_eq, cBiV_ap, cChn_ap, chnKx_ap, chnKy_ap, chnK1_ap, chnK2_ap, cAnd_ap, andK_ap, andK2_ap, cOr_ap, orK_val, orK_own, orK2_ap, cIte_ap, iteK_ap, consK_ap, appK_ap, evs_nil, evs_cons, evsK_ap, evI_nil, evI_one, evIK_ap, evIA_ap, evI_star, evIS_ap, seqO_some, evI_starV, seqD_l, seqD_t, cLst_ap, lstK_ap, cTup_ap, tupK_ap, evO_none, someK_ap, evO_some, evOK_ap, intO_i, cSl_ap, slK1_ap, slK2_ap, slK3_ap, cSlV_ap, slV0_some, slVK1_ap, slVK2_ap, cBi_ap, biK_ap, evA_nil, evA_ref, evA0_some, evA_val, evAK_ap, cCall_ap, callK_ap, callK2_ap, back_ret, back_exc, putBack_nil, putBack_ref, putBack_val, atCall_nil, atCall_ref, consO_some, atC0_some, atCall_val, cCallK_ap, callKK_ap, callKK2_ap, perm_nil, tVal_ap, tvK_ap, tAnd_ap, tAndK_ap, tOr_ap, tOrK_ap, tNot_ap, tNotK_ap, iIt_ap, itK_ap, items_l, items_t, iRng1_ap, r1K_ap, iRng2_ap, r2K1_ap, r2K_ap, iZip_ap, zipK1_ap, zipK_ap, zipD_l, zipD_t, iEnm_ap, enmK_ap, enmD_l, enmD_t, sSeq_ap, keep_tv, keep_to, keep_fv, keep_fo, setF_some, sAsg_ap, asgK_ap, nxF_some, sAsgT_ap, asgTK_ap, bindT_nm, bindT_tt, bindT_tl, bindTs_nil, bndK_some, bindTs_cons, evSs_nil, evSs_cons, evSsK_ap, sPar_ap, parK_ap, setPar_nil, parO_some, setPar_cons, sSetIx_ap, sixK_ap, sixK2_some, sixK3_ap, setDN_some, setD_own, sApp_ap, appK0_own, appK2_ap, appD_own, setF_ite, sExp_ap, expK_ap, sIf_ap, ifK_ap, sFor_ap, forK_ap, sWhile_ap, ftK_some, forTurn_ap, retF_some, sRet_ap, retK_ap, sRetN_ap, sBrk_ap, sCont_ap, sPass_ap, cLc_ap, b_add, b_sub, b_mul, b_fdiv, b_mod, b_pow, b_addL, b_addT, b_mulL, b_mulT, n_neg, q_lt, q_le, q_gt, q_ge, q_eq, q_ne, q_eqb, q_neb, c_lt, c_le, c_gt, c_ge, c_eq, t_b, t_i, t_l, t_t, t_n, g_not, i_n, i_b, i_i, i_s, i_l, i_t, g_isn, g_isnn, gi_n, gi_b, gi_i, gi_s, gi_l, gi_t, f_max, f_min, f_abs, f_int, f_intb, f_lenl, f_lent, f_listl, f_listt, f_tupl, f_tupt, f_sum, f_all, f_any, f_sort, f_sortT, g_atl, g_att, s_l, s_t, r_l, List.set_cons_zero, List.set_cons_succ, List.map_cons, List.map_nil, List.nil_append, List.cons_append, Option.map_some, Option.map_none, decide_eq_true_eq, Bool.not_eq_true', decide_eq_false_iff_not, Bool.false_eq_true, if_true, if_false, ite_self, if_false, rep_z, rep_s, lenOk, List.length_cons, List.length_nil]
      exact ⟨rs, bx2, rfl, rfl, ⟨by intro e; subst e; simp at hl; omega, by omega, hr⟩, hb2.mono (by omega)⟩
  obtain ⟨s, ps, e, rs, bx', rfl, rfl, h1, h2⟩ := key.eq
  exact ⟨rs, bx', e, h1, h2⟩
theorem words_ok (n : Nat) (rs : List Int) (h : Fig 30 rs) (hl : rs.length ≤ 100) : call P (n + 1) 9 [.val (.tuple (rs.map .int))] = .ret (.val (.str (S (joinL [32] (rs.map runCs))))) [none] := by
  have lc : lcK (lcTurn ⟨call P n, P.fuel⟩ (.nm 1) none (c2 (gBin .add) (cIte (tVal (c2 (gCmp .gt) (cVar 1) (cCon (.int 0)))) (cCon (.str (S [43]))) (cCon (.str (S [])))) (cBi .str [(cVar 1)])) [1]) [1] (rs.map .int) [some (.val (.tuple (rs.map .int))), none] = .ok (.own ((rs.map runCs).map fun w => .str (S w))) [some (.val (.tuple (rs.map .int))), none] := by
    rw [List.map_map]
    refine lcK_map .int rs _ rfl (by rw [lenOk]; omega) (fun r hr => ?_) rfl
    have no := num_small (h r hr).2 (by omega)
    have l1 := natCs_len (h r hr).2 (by omega)
    have f3 : biD .str [I r] = some (.val (.str (S (intCs r)))) := by
      show (if numOk r = true then some (Ev.Slot.val (.str (S (intCs r)))) else none) = _
      rw [if_pos no]
    have ap : ∀ a b : List Nat, a.length + b.length ≤ 100 → gBin .add (.str (S a)) (.str (S b)) = some (.val (.str (S (a ++ b)))) := fun a b hab => by
      show ((if decide ((S a).length + (S b).length ≤ sizeLine) = true then some (PyData.str (S a ++ S b)) else none).map fresh) = _
      rw [S_len, S_len, if_pos (decide_eq_true (by rw [lenOk]; omega)), Bt.S_app]; rfl
    by_cases h0 : 0 < r
    · have e : intCs r = natCs r.natAbs := if_neg (by omega)
      have e2 : runCs r = 43 :: natCs r.natAbs := if_pos h0
      rw [e] at f3
      have q := ap [43] (natCs r.natAbs) (by simp; omega)
      simp only [h0, f3, q, decide_true, List.cons_append, List.nil_append, cLenI_ap, lenIK_l, lenIK_t, cSs_eq, cPop_ap, popK0_own, popF_some, popK_ap, sExt_ap, extK0_own, extK2_ap, extD_own, gFld_snap, cFld_eq, cPrp_ap, prpK_ap, noX_ok, cMb_ap, mbK_ap, mbK1_ap, mbK2_ap, rc_ixl, rc_spl, rc_joi, cFst_ap, fK0_ap, evF_nil, evF_cons, fK1_ap, fK2_ap, newK_ret, f_sumt, List.isEmpty_nil, List.isEmpty_cons, not_true_eq_false, not_false_eq_true, r_t, perm_cons, permC_some, List.getElem?_cons_zero, List.getElem?_cons_succ, at_0, at_1, at_2, at_3, at_4, at_last, List.length_map, reduceCtorEq, lcTurn_ap, lcK3_ap, lcK2_ap, lcE_some, evC_none, evC_some, wipe_nil, wipe_cons, rest_nil, rest_cons, fw_next, fw_ret, fw_brk, fw_cont, fw_ite, Nat.reduceAdd, Nat.reduceLeDiff, true_and, and_true, and_self, cRg1_ap, rg1K_f, rg1K_t, cRg2_ap, rg2K_ap, rg2K2_f, rg2K2_t, bind_ok, bind_no, bind_exc, bind_ite, opt_some, opt_none, opt_ite, val_okv, val_oko, val_no, val_exc, val_ite, opn_eq, flow_ok, flow_no, flow_exc, flow_ite, seq_next, seq_ret, seq_brk, seq_cont, seq_exc, seq_no, seq_ite, turn_next, turn_ret, turn_brk, turn_cont, turn_exc, turn_ite, done_next, done_ret, done_exc, done_ite, mask_nil, mask_t, mask_f, orNo_some, orNo_none, getS_z, getS_s, cVar_ap, rdV_val, rdV_own, cMov_ap, rdM_val, rdM_own, dat_val, dat_own, datV_eq, datS_val, datS_own, datR_eq, datSR_val, datSR_own, datSR_rd, cCon_ap, cVal_ap, cValK_ap, c1_ap, c1K_ap, c2_ap, c2K_ap, gO_some, c1V_ap, c2V_ap, c2V0_some, c2VK_ap, c2W_ap, c2WK_ap, bl_some, cBin_eq, cNeg_eq, cNot_eq, cCmp_eq, cIsN_eq, cSub_eq, cSubV_eq, cRev_eq, cRevV_eq, cInV_eq, cIsi_eq, cIsiV_eq, cBiV_ap, cChn_ap, chnKx_ap, chnKy_ap, chnK1_ap, chnK2_ap, cAnd_ap, andK_ap, andK2_ap, cOr_ap, orK_val, orK_own, orK2_ap, cIte_ap, iteK_ap, consK_ap, appK_ap, evs_nil, evs_cons, evsK_ap, evI_nil, evI_one, evIK_ap, evIA_ap, evI_star, evIS_ap, seqO_some, evI_starV, seqD_l, seqD_t, cLst_ap, lstK_ap, cTup_ap, tupK_ap, evO_none, someK_ap, evO_some, evOK_ap, intO_i, cSl_ap, slK1_ap, slK2_ap, slK3_ap, cSlV_ap, slV0_some, slVK1_ap, slVK2_ap, cBi_ap, biK_ap, evA_nil, evA_ref, evA0_some, evA_val, evAK_ap, cCall_ap, callK_ap, callK2_ap, back_ret, back_exc, putBack_nil, putBack_ref, putBack_val, atCall_nil, atCall_ref, consO_some, atC0_some, atCall_val, cCallK_ap, callKK_ap, callKK2_ap, perm_nil, tVal_ap, tvK_ap, tAnd_ap, tAndK_ap, tOr_ap, tOrK_ap, tNot_ap, tNotK_ap, iIt_ap, itK_ap, items_l, items_t, iRng1_ap, r1K_ap, iRng2_ap, r2K1_ap, r2K_ap, iZip_ap, zipK1_ap, zipK_ap, zipD_l, zipD_t, iEnm_ap, enmK_ap, enmD_l, enmD_t, sSeq_ap, keep_tv, keep_to, keep_fv, keep_fo, setF_some, sAsg_ap, asgK_ap, nxF_some, sAsgT_ap, asgTK_ap, bindT_nm, bindT_tt, bindT_tl, bindTs_nil, bndK_some, bindTs_cons, evSs_nil, evSs_cons, evSsK_ap, sPar_ap, parK_ap, setPar_nil, parO_some, setPar_cons, sSetIx_ap, sixK_ap, sixK2_some, sixK3_ap, setDN_some, setD_own, sApp_ap, appK0_own, appK2_ap, appD_own, setF_ite, sExp_ap, expK_ap, sIf_ap, ifK_ap, sFor_ap, forK_ap, sWhile_ap, ftK_some, forTurn_ap, retF_some, sRet_ap, retK_ap, sRetN_ap, sBrk_ap, sCont_ap, sPass_ap, cLc_ap, b_add, b_sub, b_mul, b_fdiv, b_mod, b_pow, b_addL, b_addT, b_mulL, b_mulT, n_neg, q_lt, q_le, q_gt, q_ge, q_eq, q_ne, q_eqb, q_neb, c_lt, c_le, c_gt, c_ge, c_eq, t_b, t_i, t_l, t_t, t_n, g_not, i_n, i_b, i_i, i_s, i_l, i_t, g_isn, g_isnn, gi_n, gi_b, gi_i, gi_s, gi_l, gi_t, f_max, f_min, f_abs, f_int, f_intb, f_lenl, f_lent, f_listl, f_listt, f_tupl, f_tupt, f_sum, f_all, f_any, f_sort, f_sortT, g_atl, g_att, s_l, s_t, r_l, List.set_cons_zero, List.set_cons_succ, List.map_cons, List.map_nil, List.nil_append, List.cons_append, Option.map_some, Option.map_none, decide_eq_true_eq, Bool.not_eq_true', decide_eq_false_iff_not, Bool.false_eq_true, if_true, if_false, ite_self, if_false, rep_z, rep_s, lenOk, List.length_cons, List.length_nil]
      show _ = R.ok (some (PyData.str (S (runCs r)))) _
      rw [e2]
    · have e : intCs r = 45 :: natCs r.natAbs := if_pos (by have := (h r hr).1; omega)
      have e2 : runCs r = 45 :: natCs r.natAbs := if_neg h0
      rw [e] at f3
      have q := ap [] (45 :: natCs r.natAbs) (by simp; omega)
      simp only [h0, f3, q, decide_false, List.nil_append, cLenI_ap, lenIK_l, lenIK_t, cSs_eq, cPop_ap, popK0_own, popF_some, popK_ap, sExt_ap, extK0_own, extK2_ap, extD_own, gFld_snap, cFld_eq, cPrp_ap, prpK_ap, noX_ok, cMb_ap, mbK_ap, mbK1_ap, mbK2_ap, rc_ixl, rc_spl, rc_joi, cFst_ap, fK0_ap, evF_nil, evF_cons, fK1_ap, fK2_ap, newK_ret, f_sumt, List.isEmpty_nil, List.isEmpty_cons, not_true_eq_false, not_false_eq_true, r_t, perm_cons, permC_some, List.getElem?_cons_zero, List.getElem?_cons_succ, at_0, at_1, at_2, at_3, at_4, at_last, List.length_map, reduceCtorEq, lcTurn_ap, lcK3_ap, lcK2_ap, lcE_some, evC_none, evC_some, wipe_nil, wipe_cons, rest_nil, rest_cons, fw_next, fw_ret, fw_brk, fw_cont, fw_ite, Nat.reduceAdd, Nat.reduceLeDiff, true_and, and_true, and_self, cRg1_ap, rg1K_f, rg1K_t, cRg2_ap, rg2K_ap, rg2K2_f, rg2K2_t, bind_ok, bind_no, bind_exc, bind_ite, opt_some, opt_none, opt_ite, val_okv, val_oko, val_no, val_exc, val_ite, opn_eq, flow_ok, flow_no, flow_exc, flow_ite, seq_next, seq_ret, seq_brk, seq_cont, seq_exc, seq_no, seq_ite, turn_next, turn_ret, turn_brk, turn_cont, turn_exc, turn_ite, done_next, done_ret, done_exc, done_ite, mask_nil, mask_t, mask_f, orNo_some, orNo_none, getS_z, getS_s, cVar_ap, rdV_val, rdV_own, cMov_ap, rdM_val, rdM_own, dat_val, dat_own, datV_eq, datS_val, datS_own, datR_eq, datSR_val, datSR_own, datSR_rd, cCon_ap, cVal_ap, cValK_ap, c1_ap, c1K_ap, c2_ap, c2K_ap, gO_some, c1V_ap, c2V_ap, c2V0_some, c2VK_ap, c2W_ap, c2WK_ap, bl_some, cBin_eq, cNeg_eq, cNot_eq, cCmp_eq, cIsN_eq, cSub_eq, cSubV_eq, cRev_eq, cRevV_eq, cInV_eq, cIsi_eq, cIsiV_eq, cBiV_ap, cChn_ap, chnKx_ap, chnKy_ap, chnK1_ap, chnK2_ap, cAnd_ap, andK_ap, andK2_ap, cOr_ap, orK_val, orK_own, orK2_ap, cIte_ap, iteK_ap, consK_ap, appK_ap, evs_nil, evs_cons, evsK_ap, evI_nil, evI_one, evIK_ap, evIA_ap, evI_star, evIS_ap, seqO_some, evI_starV, seqD_l, seqD_t, cLst_ap, lstK_ap, cTup_ap, tupK_ap, evO_none, someK_ap, evO_some, evOK_ap, intO_i, cSl_ap, slK1_ap, slK2_ap, slK3_ap, cSlV_ap, slV0_some, slVK1_ap, slVK2_ap, cBi_ap, biK_ap, evA_nil, evA_ref, evA0_some, evA_val, evAK_ap, cCall_ap, callK_ap, callK2_ap, back_ret, back_exc, putBack_nil, putBack_ref, putBack_val, atCall_nil, atCall_ref, consO_some, atC0_some, atCall_val, cCallK_ap, callKK_ap, callKK2_ap, perm_nil, tVal_ap, tvK_ap, tAnd_ap, tAndK_ap, tOr_ap, tOrK_ap, tNot_ap, tNotK_ap, iIt_ap, itK_ap, items_l, items_t, iRng1_ap, r1K_ap, iRng2_ap, r2K1_ap, r2K_ap, iZip_ap, zipK1_ap, zipK_ap, zipD_l, zipD_t, iEnm_ap, enmK_ap, enmD_l, enmD_t, sSeq_ap, keep_tv, keep_to, keep_fv, keep_fo, setF_some, sAsg_ap, asgK_ap, nxF_some, sAsgT_ap, asgTK_ap, bindT_nm, bindT_tt, bindT_tl, bindTs_nil, bndK_some, bindTs_cons, evSs_nil, evSs_cons, evSsK_ap, sPar_ap, parK_ap, setPar_nil, parO_some, setPar_cons, sSetIx_ap, sixK_ap, sixK2_some, sixK3_ap, setDN_some, setD_own, sApp_ap, appK0_own, appK2_ap, appD_own, setF_ite, sExp_ap, expK_ap, sIf_ap, ifK_ap, sFor_ap, forK_ap, sWhile_ap, ftK_some, forTurn_ap, retF_some, sRet_ap, retK_ap, sRetN_ap, sBrk_ap, sCont_ap, sPass_ap, cLc_ap, b_add, b_sub, b_mul, b_fdiv, b_mod, b_pow, b_addL, b_addT, b_mulL, b_mulT, n_neg, q_lt, q_le, q_gt, q_ge, q_eq, q_ne, q_eqb, q_neb, c_lt, c_le, c_gt, c_ge, c_eq, t_b, t_i, t_l, t_t, t_n, g_not, i_n, i_b, i_i, i_s, i_l, i_t, g_isn, g_isnn, gi_n, gi_b, gi_i, gi_s, gi_l, gi_t, f_max, f_min, f_abs, f_int, f_intb, f_lenl, f_lent, f_listl, f_listt, f_tupl, f_tupt, f_sum, f_all, f_any, f_sort, f_sortT, g_atl, g_att, s_l, s_t, r_l, List.set_cons_zero, List.set_cons_succ, List.map_cons, List.map_nil, List.nil_append, List.cons_append, Option.map_some, Option.map_none, decide_eq_true_eq, Bool.not_eq_true', decide_eq_false_iff_not, Bool.false_eq_true, if_true, if_false, ite_self, if_false, rep_z, rep_s, lenOk, List.length_cons, List.length_nil]
      show _ = R.ok (some (PyData.str (S (runCs r)))) _
      rw [e2]
  have j := join_ok (rs.map runCs) (m := 31) (fun w hw => by
    obtain ⟨r, hr, rfl⟩ := List.mem_map.mp hw
    exact runCs_len (h r hr).2 (by omega)) (by rw [List.length_map]; omega)
  rw [call_eq m__law_row_words rfl rfl]
  simp only [m__law_row_words, lc, j, cLenI_ap, lenIK_l, lenIK_t, cSs_eq, cPop_ap, popK0_own, popF_some, popK_ap, sExt_ap, extK0_own, extK2_ap, extD_own, gFld_snap, cFld_eq, cPrp_ap, prpK_ap, noX_ok, cMb_ap, mbK_ap, mbK1_ap, mbK2_ap, rc_ixl, rc_spl, rc_joi, cFst_ap, fK0_ap, evF_nil, evF_cons, fK1_ap, fK2_ap, newK_ret, f_sumt, List.isEmpty_nil, List.isEmpty_cons, not_true_eq_false, not_false_eq_true, r_t, perm_cons, permC_some, List.getElem?_cons_zero, List.getElem?_cons_succ, at_0, at_1, at_2, at_3, at_4, at_last, List.length_map, reduceCtorEq, lcTurn_ap, lcK3_ap, lcK2_ap, lcE_some, evC_none, evC_some, wipe_nil, wipe_cons, rest_nil, rest_cons, fw_next, fw_ret, fw_brk, fw_cont, fw_ite, Nat.reduceAdd, Nat.reduceLeDiff, true_and, and_true, and_self, cRg1_ap, rg1K_f, rg1K_t, cRg2_ap, rg2K_ap, rg2K2_f, rg2K2_t, bind_ok, bind_no, bind_exc, bind_ite, opt_some, opt_none, opt_ite, val_okv, val_oko, val_no, val_exc, val_ite, opn_eq, flow_ok, flow_no, flow_exc, flow_ite, seq_next, seq_ret, seq_brk, seq_cont, seq_exc, seq_no, seq_ite, turn_next, turn_ret, turn_brk, turn_cont, turn_exc, turn_ite, done_next, done_ret, done_exc, done_ite, mask_nil, mask_t, mask_f, orNo_some, orNo_none, getS_z, getS_s, cVar_ap, rdV_val, rdV_own, cMov_ap, rdM_val, rdM_own, dat_val, dat_own, datV_eq, datS_val, datS_own, datR_eq, datSR_val, datSR_own, datSR_rd, cCon_ap, cVal_ap, cValK_ap, c1_ap, c1K_ap, c2_ap, c2K_ap, gO_some, c1V_ap, c2V_ap, c2V0_some, c2VK_ap, c2W_ap, c2WK_ap, bl_some, cBin_eq, cNeg_eq, cNot_eq, cCmp_eq, cIsN_eq, cSub_eq, cSubV_eq, cRev_eq, cRevV_eq, cInV_eq, cIsi_eq, cIsiV_eq, cBiV_ap, cChn_ap, chnKx_ap, chnKy_ap, chnK1_ap, chnK2_ap, cAnd_ap, andK_ap, andK2_ap, cOr_ap, orK_val, orK_own, orK2_ap, cIte_ap, iteK_ap, consK_ap, appK_ap, evs_nil, evs_cons, evsK_ap, evI_nil, evI_one, evIK_ap, evIA_ap, evI_star, evIS_ap, seqO_some, evI_starV, seqD_l, seqD_t, cLst_ap, lstK_ap, cTup_ap, tupK_ap, evO_none, someK_ap, evO_some, evOK_ap, intO_i, cSl_ap, slK1_ap, slK2_ap, slK3_ap, cSlV_ap, slV0_some, slVK1_ap, slVK2_ap, cBi_ap, biK_ap, evA_nil, evA_ref, evA0_some, evA_val, evAK_ap, cCall_ap, callK_ap, callK2_ap, back_ret, back_exc, putBack_nil, putBack_ref, putBack_val, atCall_nil, atCall_ref, consO_some, atC0_some, atCall_val, cCallK_ap, callKK_ap, callKK2_ap, perm_nil, tVal_ap, tvK_ap, tAnd_ap, tAndK_ap, tOr_ap, tOrK_ap, tNot_ap, tNotK_ap, iIt_ap, itK_ap, items_l, items_t, iRng1_ap, r1K_ap, iRng2_ap, r2K1_ap, r2K_ap, iZip_ap, zipK1_ap, zipK_ap, zipD_l, zipD_t, iEnm_ap, enmK_ap, enmD_l, enmD_t, sSeq_ap, keep_tv, keep_to, keep_fv, keep_fo, setF_some, sAsg_ap, asgK_ap, nxF_some, sAsgT_ap, asgTK_ap, bindT_nm, bindT_tt, bindT_tl, bindTs_nil, bndK_some, bindTs_cons, evSs_nil, evSs_cons, evSsK_ap, sPar_ap, parK_ap, setPar_nil, parO_some, setPar_cons, sSetIx_ap, sixK_ap, sixK2_some, sixK3_ap, setDN_some, setD_own, sApp_ap, appK0_own, appK2_ap, appD_own, setF_ite, sExp_ap, expK_ap, sIf_ap, ifK_ap, sFor_ap, forK_ap, sWhile_ap, ftK_some, forTurn_ap, retF_some, sRet_ap, retK_ap, sRetN_ap, sBrk_ap, sCont_ap, sPass_ap, cLc_ap, b_add, b_sub, b_mul, b_fdiv, b_mod, b_pow, b_addL, b_addT, b_mulL, b_mulT, n_neg, q_lt, q_le, q_gt, q_ge, q_eq, q_ne, q_eqb, q_neb, c_lt, c_le, c_gt, c_ge, c_eq, t_b, t_i, t_l, t_t, t_n, g_not, i_n, i_b, i_i, i_s, i_l, i_t, g_isn, g_isnn, gi_n, gi_b, gi_i, gi_s, gi_l, gi_t, f_max, f_min, f_abs, f_int, f_intb, f_lenl, f_lent, f_listl, f_listt, f_tupl, f_tupt, f_sum, f_all, f_any, f_sort, f_sortT, g_atl, g_att, s_l, s_t, r_l, List.set_cons_zero, List.set_cons_succ, List.map_cons, List.map_nil, List.nil_append, List.cons_append, Option.map_some, Option.map_none, decide_eq_true_eq, Bool.not_eq_true', decide_eq_false_iff_not, Bool.false_eq_true, if_true, if_false, ite_self, if_false, rep_z, rep_s, lenOk, List.length_cons, List.length_nil]
theorem strOk_S {l : List Nat} (h : ∀ c ∈ l, c < 1114112) : PyData.strOk (S l) = true := by
  unfold PyData.strOk S
  rw [Array.all_eq_true_iff_forall_mem]
  intro c hc
  exact decide_eq_true (h c (by simpa using hc))
theorem joined_lt {m : Nat} {rs : List Int} (h : Fig m rs) : ∀ c ∈ joinL [32] (rs.map runCs), c < 1114112 := by
  have key : ∀ ws : List (List Nat), (∀ w ∈ ws, ∀ c ∈ w, c < 1114112) → ∀ c ∈ joinL [32] ws, c < 1114112 := by
    intro ws
    induction ws with
    | nil => intro _ c hc; cases hc
    | cons w ws ih =>
      intro hw c hc
      cases ws with
      | nil => exact hw w (List.mem_cons_self ..) c hc
      | cons v ws =>
        have hc : c ∈ w ++ ([32] ++ joinL [32] (v :: ws)) := hc
        rcases List.mem_append.mp hc with q | q
        · exact hw w (List.mem_cons_self ..) c q
        · rcases List.mem_append.mp q with q | q
          · cases List.mem_singleton.mp q; omega
          · exact ih (fun w hw' => hw w (List.mem_cons_of_mem _ hw')) c q
  refine key _ fun w hw c hc => ?_
  obtain ⟨r, hr, rfl⟩ := List.mem_map.mp hw
  rcases runCs_dig r c hc with rfl | rfl | q
  · decide
  · decide
  · unfold isDig at q; simp at q; omega
/-! a row of words, one of which is wrong -/
def runW (w : List Nat) : Option Int := if w = [] then none else runZ w
def strS (w : List Nat) : D := .str (S w)
theorem rfrom_bad (n : Nat) (ws : List (List Nat)) (k : Nat) (hnb : ∀ w ∈ ws, ∀ c ∈ w, c ≠ 32) (hl : ∀ w ∈ ws, w.length ≤ 600) (hlen : ws.length ≤ 1000)
    (hok : ∀ j w, j < k → ws[j]? = some w → ∃ r, runW w = some r) (b : List Nat) (hk : ws[k]? = some b) (hb : runW b = none) :
    call P (n + 3) 2 [.val (.str (S (joinL [32] ws)))] = .exc 0 [I k] [none] := by
  have hkl : k < ws.length := (List.getElem?_eq_some_iff.mp hk).1
  have tlen := join_len 32 600 ws hl
  have ml := Nat.mul_le_mul_right 601 hlen
  have sp := split_ok (joinL [32] ws) (by rw [lenOk]; omega)
  rw [cut_join 32 _ (fun z => by rw [z] at hkl; simp at hkl) hnb] at sp
  refine CRx.exc (call_fx m_runs_from rfl rfl ?_)
  simp only [m_runs_from, sp, cLenI_ap, lenIK_l, lenIK_t, cSs_eq, cPop_ap, popK0_own, popF_some, popK_ap, sExt_ap, extK0_own, extK2_ap, extD_own, gFld_snap, cFld_eq, cPrp_ap, prpK_ap, noX_ok, cMb_ap, mbK_ap, mbK1_ap, mbK2_ap, rc_ixl, rc_spl, rc_joi, cFst_ap, fK0_ap, evF_nil, evF_cons, fK1_ap, fK2_ap, newK_ret, f_sumt, List.isEmpty_nil, List.isEmpty_cons, not_true_eq_false, not_false_eq_true, r_t, perm_cons, permC_some, List.getElem?_cons_zero, List.getElem?_cons_succ, at_0, at_1, at_2, at_3, at_4, at_last, List.length_map, reduceCtorEq, lcTurn_ap, lcK3_ap, lcK2_ap, lcE_some, evC_none, evC_some, wipe_nil, wipe_cons, rest_nil, rest_cons, fw_next, fw_ret, fw_brk, fw_cont, fw_ite, Nat.reduceAdd, Nat.reduceLeDiff, true_and, and_true, and_self, cRg1_ap, rg1K_f, rg1K_t, cRg2_ap, rg2K_ap, rg2K2_f, rg2K2_t, bind_ok, bind_no, bind_exc, bind_ite, opt_some, opt_none, opt_ite, val_okv, val_oko, val_no, val_exc, val_ite, opn_eq, flow_ok, flow_no, flow_exc, flow_ite, seq_next, seq_ret, seq_brk, seq_cont, seq_exc, seq_no, seq_ite, turn_next, turn_ret, turn_brk, turn_cont, turn_exc, turn_ite, done_next, done_ret, done_exc, done_ite, mask_nil, mask_t, mask_f, orNo_some, orNo_none, getS_z, getS_s, cVar_ap, rdV_val, rdV_own, cMov_ap, rdM_val, rdM_own, dat_val, dat_own, datV_eq, datS_val, datS_own, datR_eq, datSR_val, datSR_own, datSR_rd, cCon_ap, cVal_ap, cValK_ap, c1_ap, c1K_ap, c2_ap, c2K_ap, gO_some, c1V_ap, c2V_ap, c2V0_some, c2VK_ap, c2W_ap, c2WK_ap, bl_some, cBin_eq, cNeg_eq, cNot_eq, cCmp_eq, cIsN_eq, cSub_eq, cSubV_eq, cRev_eq, cRevV_eq, cInV_eq, cIsi_eq, cIsiV_eq, cBiV_ap, cChn_ap, chnKx_ap, chnKy_ap, chnK1_ap, chnK2_ap, cAnd_ap, andK_ap, andK2_ap, cOr_ap, orK_val, orK_own, orK2_ap, cIte_ap, iteK_ap, consK_ap, appK_ap, evs_nil, evs_cons, evsK_ap, evI_nil, evI_one, evIK_ap, evIA_ap, evI_star, evIS_ap, seqO_some, evI_starV, seqD_l, seqD_t, cLst_ap, lstK_ap, cTup_ap, tupK_ap, evO_none, someK_ap, evO_some, evOK_ap, intO_i, cSl_ap, slK1_ap, slK2_ap, slK3_ap, cSlV_ap, slV0_some, slVK1_ap, slVK2_ap, cBi_ap, biK_ap, evA_nil, evA_ref, evA0_some, evA_val, evAK_ap, cCall_ap, callK_ap, callK2_ap, back_ret, back_exc, putBack_nil, putBack_ref, putBack_val, atCall_nil, atCall_ref, consO_some, atC0_some, atCall_val, cCallK_ap, callKK_ap, callKK2_ap, perm_nil, tVal_ap, tvK_ap, tAnd_ap, tAndK_ap, tOr_ap, tOrK_ap, tNot_ap, tNotK_ap, iIt_ap, itK_ap, items_l, items_t, iRng1_ap, r1K_ap, iRng2_ap, r2K1_ap, r2K_ap, iZip_ap, zipK1_ap, zipK_ap, zipD_l, zipD_t, iEnm_ap, enmK_ap, enmD_l, enmD_t, sSeq_ap, keep_tv, keep_to, keep_fv, keep_fo, setF_some, sAsg_ap, asgK_ap, nxF_some, sAsgT_ap, asgTK_ap, bindT_nm, bindT_tt, bindT_tl, bindTs_nil, bndK_some, bindTs_cons, evSs_nil, evSs_cons, evSsK_ap, sPar_ap, parK_ap, setPar_nil, parO_some, setPar_cons, sSetIx_ap, sixK_ap, sixK2_some, sixK3_ap, setDN_some, setD_own, sApp_ap, appK0_own, appK2_ap, appD_own, setF_ite, sExp_ap, expK_ap, sIf_ap, ifK_ap, sFor_ap, forK_ap, sWhile_ap, ftK_some, forTurn_ap, retF_some, sRet_ap, retK_ap, sRetN_ap, sBrk_ap, sCont_ap, sPass_ap, cLc_ap, b_add, b_sub, b_mul, b_fdiv, b_mod, b_pow, b_addL, b_addT, b_mulL, b_mulT, n_neg, q_lt, q_le, q_gt, q_ge, q_eq, q_ne, q_eqb, q_neb, c_lt, c_le, c_gt, c_ge, c_eq, t_b, t_i, t_l, t_t, t_n, g_not, i_n, i_b, i_i, i_s, i_l, i_t, g_isn, g_isnn, gi_n, gi_b, gi_i, gi_s, gi_l, gi_t, f_max, f_min, f_abs, f_int, f_intb, f_lenl, f_lent, f_listl, f_listt, f_tupl, f_tupt, f_sum, f_all, f_any, f_sort, f_sortT, g_atl, g_att, s_l, s_t, r_l, List.set_cons_zero, List.set_cons_succ, List.map_cons, List.map_nil, List.nil_append, List.cons_append, Option.map_some, Option.map_none, decide_eq_true_eq, Bool.not_eq_true', decide_eq_false_iff_not, Bool.false_eq_true, if_true, if_false, ite_self, if_false, rep_z, rep_s, lenOk, List.length_cons, List.length_nil]
  refine for_fw (fun i e => i ≤ k ∧ ∃ (L : List D) (o2 o3 o4 : Option Ev.Slot), L.length = i ∧ e = [some (.val (.str (S (joinL [32] ws)))), some (.own L), o2, o3, o4]) ⟨Nat.zero_le _, [], none, none, none, rfl, rfl⟩ ?_ ?_
  · rintro i x e hx ⟨hi, L, o2, o3, o4, hL, rfl⟩
    rw [enm_get, List.getElem?_map] at hx
    cases hr : ws[i]? with
    | none => rw [hr] at hx; cases hx
    | some w =>
      rw [hr] at hx
      cases hx
      have hm1 := List.mem_of_getElem? hr
      have wl := hl w hm1
      have hL2 : L.length < 16777216 := by omega
      by_cases hik : i = k
      · subst hik
        rw [hk] at hr
        cases hr
        have e0 : ((0 + i : Nat) : Int) = (i : Int) := by rw [Nat.zero_add]
        by_cases hb0 : b = []
        · have nw : gCmp .ne (.str (S b)) (.str (S [])) = some (.val (.bool false)) := by rw [q_neS, decide_eq_true hb0]; rfl
          simp only [nw, e0, xsT, sRaiseX_ap, rsK_i, rsK_s, rsK_0, sTry_ap, tryK_next, tryK_ret, tryK_exc, tryK_ite, catchX_ap, catchK_some, isN_x, fw_exc, cXf_eq, cIsX_eq, List.contains_cons, List.contains_nil, beq_self_eq_true, Bool.true_or, Bool.or_true, Bool.or_false, Bool.false_or, Nat.reduceBEq, Nat.reduceEqDiff, Nat.reduceLT, cLenI_ap, lenIK_l, lenIK_t, cSs_eq, cPop_ap, popK0_own, popF_some, popK_ap, sExt_ap, extK0_own, extK2_ap, extD_own, gFld_snap, cFld_eq, cPrp_ap, prpK_ap, noX_ok, cMb_ap, mbK_ap, mbK1_ap, mbK2_ap, rc_ixl, rc_spl, rc_joi, cFst_ap, fK0_ap, evF_nil, evF_cons, fK1_ap, fK2_ap, newK_ret, f_sumt, List.isEmpty_nil, List.isEmpty_cons, not_true_eq_false, not_false_eq_true, r_t, perm_cons, permC_some, List.getElem?_cons_zero, List.getElem?_cons_succ, at_0, at_1, at_2, at_3, at_4, at_last, List.length_map, reduceCtorEq, lcTurn_ap, lcK3_ap, lcK2_ap, lcE_some, evC_none, evC_some, wipe_nil, wipe_cons, rest_nil, rest_cons, fw_next, fw_ret, fw_brk, fw_cont, fw_ite, Nat.reduceAdd, Nat.reduceLeDiff, true_and, and_true, and_self, cRg1_ap, rg1K_f, rg1K_t, cRg2_ap, rg2K_ap, rg2K2_f, rg2K2_t, bind_ok, bind_no, bind_exc, bind_ite, opt_some, opt_none, opt_ite, val_okv, val_oko, val_no, val_exc, val_ite, opn_eq, flow_ok, flow_no, flow_exc, flow_ite, seq_next, seq_ret, seq_brk, seq_cont, seq_exc, seq_no, seq_ite, turn_next, turn_ret, turn_brk, turn_cont, turn_exc, turn_ite, done_next, done_ret, done_exc, done_ite, mask_nil, mask_t, mask_f, orNo_some, orNo_none, getS_z, getS_s, cVar_ap, rdV_val, rdV_own, cMov_ap, rdM_val, rdM_own, dat_val, dat_own, datV_eq, datS_val, datS_own, datR_eq, datSR_val, datSR_own, datSR_rd, cCon_ap, cVal_ap, cValK_ap, c1_ap, c1K_ap, c2_ap, c2K_ap, gO_some, c1V_ap, c2V_ap, c2V0_some, c2VK_ap, c2W_ap, c2WK_ap, bl_some, cBin_eq, cNeg_eq, cNot_eq, cCmp_eq, cIsN_eq, cSub_eq, cSubV_eq, cRev_eq, cRevV_eq, cInV_eq, cIsi_eq, cIsiV_eq, cBiV_ap, cChn_ap, chnKx_ap, chnKy_ap, chnK1_ap, chnK2_ap, cAnd_ap, andK_ap, andK2_ap, cOr_ap, orK_val, orK_own, orK2_ap, cIte_ap, iteK_ap, consK_ap, appK_ap, evs_nil, evs_cons, evsK_ap, evI_nil, evI_one, evIK_ap, evIA_ap, evI_star, evIS_ap, seqO_some, evI_starV, seqD_l, seqD_t, cLst_ap, lstK_ap, cTup_ap, tupK_ap, evO_none, someK_ap, evO_some, evOK_ap, intO_i, cSl_ap, slK1_ap, slK2_ap, slK3_ap, cSlV_ap, slV0_some, slVK1_ap, slVK2_ap, cBi_ap, biK_ap, evA_nil, evA_ref, evA0_some, evA_val, evAK_ap, cCall_ap, callK_ap, callK2_ap, back_ret, back_exc, putBack_nil, putBack_ref, putBack_val, atCall_nil, atCall_ref, consO_some, atC0_some, atCall_val, cCallK_ap, callKK_ap, callKK2_ap, perm_nil, tVal_ap, tvK_ap, tAnd_ap, tAndK_ap, tOr_ap, tOrK_ap, tNot_ap, tNotK_ap, iIt_ap, itK_ap, items_l, items_t, iRng1_ap, r1K_ap, iRng2_ap, r2K1_ap, r2K_ap, iZip_ap, zipK1_ap, zipK_ap, zipD_l, zipD_t, iEnm_ap, enmK_ap, enmD_l, enmD_t, sSeq_ap, keep_tv, keep_to, keep_fv, keep_fo, setF_some, sAsg_ap, asgK_ap, nxF_some, sAsgT_ap, asgTK_ap, bindT_nm, bindT_tt, bindT_tl, bindTs_nil, bndK_some, bindTs_cons, evSs_nil, evSs_cons, evSsK_ap, sPar_ap, parK_ap, setPar_nil, parO_some, setPar_cons, sSetIx_ap, sixK_ap, sixK2_some, sixK3_ap, setDN_some, setD_own, sApp_ap, appK0_own, appK2_ap, appD_own, setF_ite, sExp_ap, expK_ap, sIf_ap, ifK_ap, sFor_ap, forK_ap, sWhile_ap, ftK_some, forTurn_ap, retF_some, sRet_ap, retK_ap, sRetN_ap, sBrk_ap, sCont_ap, sPass_ap, cLc_ap, b_add, b_sub, b_mul, b_fdiv, b_mod, b_pow, b_addL, b_addT, b_mulL, b_mulT, n_neg, q_lt, q_le, q_gt, q_ge, q_eq, q_ne, q_eqb, q_neb, c_lt, c_le, c_gt, c_ge, c_eq, t_b, t_i, t_l, t_t, t_n, g_not, i_n, i_b, i_i, i_s, i_l, i_t, g_isn, g_isnn, gi_n, gi_b, gi_i, gi_s, gi_l, gi_t, f_max, f_min, f_abs, f_int, f_intb, f_lenl, f_lent, f_listl, f_listt, f_tupl, f_tupt, f_sum, f_all, f_any, f_sort, f_sortT, g_atl, g_att, s_l, s_t, r_l, List.set_cons_zero, List.set_cons_succ, List.map_cons, List.map_nil, List.nil_append, List.cons_append, Option.map_some, Option.map_none, decide_eq_true_eq, Bool.not_eq_true', decide_eq_false_iff_not, Bool.false_eq_true, if_true, if_false, ite_self, if_false, rep_z, rep_s, lenOk, List.length_cons, List.length_nil]
        · have nw : gCmp .ne (.str (S b)) (.str (S [])) = some (.val (.bool true)) := by rw [q_neS, decide_eq_false hb0]; rfl
          have q := runin_ok n b hb0 (by omega)
          have z : runZ b = none := by unfold runW at hb; rwa [if_neg hb0] at hb
          rw [z] at q
          simp only [optI] at q
          simp only [nw, q, e0, xsT, sRaiseX_ap, rsK_i, rsK_s, rsK_0, sTry_ap, tryK_next, tryK_ret, tryK_exc, tryK_ite, catchX_ap, catchK_some, isN_x, fw_exc, cXf_eq, cIsX_eq, List.contains_cons, List.contains_nil, beq_self_eq_true, Bool.true_or, Bool.or_true, Bool.or_false, Bool.false_or, Nat.reduceBEq, Nat.reduceEqDiff, Nat.reduceLT, cLenI_ap, lenIK_l, lenIK_t, cSs_eq, cPop_ap, popK0_own, popF_some, popK_ap, sExt_ap, extK0_own, extK2_ap, extD_own, gFld_snap, cFld_eq, cPrp_ap, prpK_ap, noX_ok, cMb_ap, mbK_ap, mbK1_ap, mbK2_ap, rc_ixl, rc_spl, rc_joi, cFst_ap, fK0_ap, evF_nil, evF_cons, fK1_ap, fK2_ap, newK_ret, f_sumt, List.isEmpty_nil, List.isEmpty_cons, not_true_eq_false, not_false_eq_true, r_t, perm_cons, permC_some, List.getElem?_cons_zero, List.getElem?_cons_succ, at_0, at_1, at_2, at_3, at_4, at_last, List.length_map, reduceCtorEq, lcTurn_ap, lcK3_ap, lcK2_ap, lcE_some, evC_none, evC_some, wipe_nil, wipe_cons, rest_nil, rest_cons, fw_next, fw_ret, fw_brk, fw_cont, fw_ite, Nat.reduceAdd, Nat.reduceLeDiff, true_and, and_true, and_self, cRg1_ap, rg1K_f, rg1K_t, cRg2_ap, rg2K_ap, rg2K2_f, rg2K2_t, bind_ok, bind_no, bind_exc, bind_ite, opt_some, opt_none, opt_ite, val_okv, val_oko, val_no, val_exc, val_ite, opn_eq, flow_ok, flow_no, flow_exc, flow_ite, seq_next, seq_ret, seq_brk, seq_cont, seq_exc, seq_no, seq_ite, turn_next, turn_ret, turn_brk, turn_cont, turn_exc, turn_ite, done_next, done_ret, done_exc, done_ite, mask_nil, mask_t, mask_f, orNo_some, orNo_none, getS_z, getS_s, cVar_ap, rdV_val, rdV_own, cMov_ap, rdM_val, rdM_own, dat_val, dat_own, datV_eq, datS_val, datS_own, datR_eq, datSR_val, datSR_own, datSR_rd, cCon_ap, cVal_ap, cValK_ap, c1_ap, c1K_ap, c2_ap, c2K_ap, gO_some, c1V_ap, c2V_ap, c2V0_some, c2VK_ap, c2W_ap, c2WK_ap, bl_some, cBin_eq, cNeg_eq, cNot_eq, cCmp_eq, cIsN_eq, cSub_eq, cSubV_eq, cRev_eq, cRevV_eq, cInV_eq, cIsi_eq, cIsiV_eq, cBiV_ap, cChn_ap, chnKx_ap, chnKy_ap, chnK1_ap, chnK2_ap, cAnd_ap, andK_ap, andK2_ap, cOr_ap, orK_val, orK_own, orK2_ap, cIte_ap, iteK_ap, consK_ap, appK_ap, evs_nil, evs_cons, evsK_ap, evI_nil, evI_one, evIK_ap, evIA_ap, evI_star, evIS_ap, seqO_some, evI_starV, seqD_l, seqD_t, cLst_ap, lstK_ap, cTup_ap, tupK_ap, evO_none, someK_ap, evO_some, evOK_ap, intO_i, cSl_ap, slK1_ap, slK2_ap, slK3_ap, cSlV_ap, slV0_some, slVK1_ap, slVK2_ap, cBi_ap, biK_ap, evA_nil, evA_ref, evA0_some, evA_val, evAK_ap, cCall_ap, callK_ap, callK2_ap, back_ret, back_exc, putBack_nil, putBack_ref, putBack_val, atCall_nil, atCall_ref, consO_some, atC0_some, atCall_val, cCallK_ap, callKK_ap, callKK2_ap, perm_nil, tVal_ap, tvK_ap, tAnd_ap, tAndK_ap, tOr_ap, tOrK_ap, tNot_ap, tNotK_ap, iIt_ap, itK_ap, items_l, items_t, iRng1_ap, r1K_ap, iRng2_ap, r2K1_ap, r2K_ap, iZip_ap, zipK1_ap, zipK_ap, zipD_l, zipD_t, iEnm_ap, enmK_ap, enmD_l, enmD_t, sSeq_ap, keep_tv, keep_to, keep_fv, keep_fo, setF_some, sAsg_ap, asgK_ap, nxF_some, sAsgT_ap, asgTK_ap, bindT_nm, bindT_tt, bindT_tl, bindTs_nil, bndK_some, bindTs_cons, evSs_nil, evSs_cons, evSsK_ap, sPar_ap, parK_ap, setPar_nil, parO_some, setPar_cons, sSetIx_ap, sixK_ap, sixK2_some, sixK3_ap, setDN_some, setD_own, sApp_ap, appK0_own, appK2_ap, appD_own, setF_ite, sExp_ap, expK_ap, sIf_ap, ifK_ap, sFor_ap, forK_ap, sWhile_ap, ftK_some, forTurn_ap, retF_some, sRet_ap, retK_ap, sRetN_ap, sBrk_ap, sCont_ap, sPass_ap, cLc_ap, b_add, b_sub, b_mul, b_fdiv, b_mod, b_pow, b_addL, b_addT, b_mulL, b_mulT, n_neg, q_lt, q_le, q_gt, q_ge, q_eq, q_ne, q_eqb, q_neb, c_lt, c_le, c_gt, c_ge, c_eq, t_b, t_i, t_l, t_t, t_n, g_not, i_n, i_b, i_i, i_s, i_l, i_t, g_isn, g_isnn, gi_n, gi_b, gi_i, gi_s, gi_l, gi_t, f_max, f_min, f_abs, f_int, f_intb, f_lenl, f_lent, f_listl, f_listt, f_tupl, f_tupt, f_sum, f_all, f_any, f_sort, f_sortT, g_atl, g_att, s_l, s_t, r_l, List.set_cons_zero, List.set_cons_succ, List.map_cons, List.map_nil, List.nil_append, List.cons_append, Option.map_some, Option.map_none, decide_eq_true_eq, Bool.not_eq_true', decide_eq_false_iff_not, Bool.false_eq_true, if_true, if_false, ite_self, if_false, rep_z, rep_s, lenOk, List.length_cons, List.length_nil]
      · obtain ⟨r, hr2⟩ := hok i w (by omega) hr
        have hw0 : w ≠ [] := fun z => by rw [z] at hr2; cases hr2
        have nw : gCmp .ne (.str (S w)) (.str (S [])) = some (.val (.bool true)) := by rw [q_neS, decide_eq_false hw0]; rfl
        have q := runin_ok n w hw0 (by omega)
        have z : runZ w = some r := by unfold runW at hr2; rwa [if_neg hw0] at hr2
        rw [z] at q
        simp only [optI] at q
        simp only [nw, q, hL2, xsT, sRaiseX_ap, rsK_i, rsK_s, rsK_0, sTry_ap, tryK_next, tryK_ret, tryK_exc, tryK_ite, catchX_ap, catchK_some, isN_x, fw_exc, cXf_eq, cIsX_eq, List.contains_cons, List.contains_nil, beq_self_eq_true, Bool.true_or, Bool.or_true, Bool.or_false, Bool.false_or, Nat.reduceBEq, Nat.reduceEqDiff, Nat.reduceLT, cLenI_ap, lenIK_l, lenIK_t, cSs_eq, cPop_ap, popK0_own, popF_some, popK_ap, sExt_ap, extK0_own, extK2_ap, extD_own, gFld_snap, cFld_eq, cPrp_ap, prpK_ap, noX_ok, cMb_ap, mbK_ap, mbK1_ap, mbK2_ap, rc_ixl, rc_spl, rc_joi, cFst_ap, fK0_ap, evF_nil, evF_cons, fK1_ap, fK2_ap, newK_ret, f_sumt, List.isEmpty_nil, List.isEmpty_cons, not_true_eq_false, not_false_eq_true, r_t, perm_cons, permC_some, List.getElem?_cons_zero, List.getElem?_cons_succ, at_0, at_1, at_2, at_3, at_4, at_last, List.length_map, reduceCtorEq, lcTurn_ap, lcK3_ap, lcK2_ap, lcE_some, evC_none, evC_some, wipe_nil, wipe_cons, rest_nil, rest_cons, fw_next, fw_ret, fw_brk, fw_cont, fw_ite, Nat.reduceAdd, Nat.reduceLeDiff, true_and, and_true, and_self, cRg1_ap, rg1K_f, rg1K_t, cRg2_ap, rg2K_ap, rg2K2_f, rg2K2_t, bind_ok, bind_no, bind_exc, bind_ite, opt_some, opt_none, opt_ite, val_okv, val_oko, val_no, val_exc, val_ite, opn_eq, flow_ok, flow_no, flow_exc, flow_ite, seq_next, seq_ret, seq_brk, seq_cont, seq_exc, seq_no, seq_ite, turn_next, turn_ret, turn_brk, turn_cont, turn_exc, turn_ite, done_next, done_ret, done_exc, done_ite, mask_nil, mask_t, mask_f, orNo_some, orNo_none, getS_z, getS_s, cVar_ap, rdV_val, rdV_own, cMov_ap, rdM_val, rdM_own, dat_val, dat_own, datV_eq, datS_val, datS_own, datR_eq, datSR_val, datSR_own, datSR_rd, cCon_ap, cVal_ap, cValK_ap, c1_ap, c1K_ap, c2_ap, c2K_ap, gO_some, c1V_ap, c2V_ap, c2V0_some, c2VK_ap, c2W_ap, c2WK_ap, bl_some, cBin_eq, cNeg_eq, cNot_eq, cCmp_eq, cIsN_eq, cSub_eq, cSubV_eq, cRev_eq, cRevV_eq, cInV_eq, cIsi_eq, cIsiV_eq, cBiV_ap, cChn_ap, chnKx_ap, chnKy_ap, chnK1_ap, chnK2_ap, cAnd_ap, andK_ap, andK2_ap, cOr_ap, orK_val, orK_own, orK2_ap, cIte_ap, iteK_ap, consK_ap, appK_ap, evs_nil, evs_cons, evsK_ap, evI_nil, evI_one, evIK_ap, evIA_ap, evI_star, evIS_ap, seqO_some, evI_starV, seqD_l, seqD_t, cLst_ap, lstK_ap, cTup_ap, tupK_ap, evO_none, someK_ap, evO_some, evOK_ap, intO_i, cSl_ap, slK1_ap, slK2_ap, slK3_ap, cSlV_ap, slV0_some, slVK1_ap, slVK2_ap, cBi_ap, biK_ap, evA_nil, evA_ref, evA0_some, evA_val, evAK_ap, cCall_ap, callK_ap, callK2_ap, back_ret, back_exc, putBack_nil, putBack_ref, putBack_val, atCall_nil, atCall_ref, consO_some, atC0_some, atCall_val, cCallK_ap, callKK_ap, callKK2_ap, perm_nil, tVal_ap, tvK_ap, tAnd_ap, tAndK_ap, tOr_ap, tOrK_ap, tNot_ap, tNotK_ap, iIt_ap, itK_ap, items_l, items_t, iRng1_ap, r1K_ap, iRng2_ap, r2K1_ap, r2K_ap, iZip_ap, zipK1_ap, zipK_ap, zipD_l, zipD_t, iEnm_ap, enmK_ap, enmD_l, enmD_t, sSeq_ap, keep_tv, keep_to, keep_fv, keep_fo, setF_some, sAsg_ap, asgK_ap, nxF_some, sAsgT_ap, asgTK_ap, bindT_nm, bindT_tt, bindT_tl, bindTs_nil, bndK_some, bindTs_cons, evSs_nil, evSs_cons, evSsK_ap, sPar_ap, parK_ap, setPar_nil, parO_some, setPar_cons, sSetIx_ap, sixK_ap, sixK2_some, sixK3_ap, setDN_some, setD_own, sApp_ap, appK0_own, appK2_ap, appD_own, setF_ite, sExp_ap, expK_ap, sIf_ap, ifK_ap, sFor_ap, forK_ap, sWhile_ap, ftK_some, forTurn_ap, retF_some, sRet_ap, retK_ap, sRetN_ap, sBrk_ap, sCont_ap, sPass_ap, cLc_ap, b_add, b_sub, b_mul, b_fdiv, b_mod, b_pow, b_addL, b_addT, b_mulL, b_mulT, n_neg, q_lt, q_le, q_gt, q_ge, q_eq, q_ne, q_eqb, q_neb, c_lt, c_le, c_gt, c_ge, c_eq, t_b, t_i, t_l, t_t, t_n, g_not, i_n, i_b, i_i, i_s, i_l, i_t, g_isn, g_isnn, gi_n, gi_b, gi_i, gi_s, gi_l, gi_t, f_max, f_min, f_abs, f_int, f_intb, f_lenl, f_lent, f_listl, f_listt, f_tupl, f_tupt, f_sum, f_all, f_any, f_sort, f_sortT, g_atl, g_att, s_l, s_t, r_l, List.set_cons_zero, List.set_cons_succ, List.map_cons, List.map_nil, List.nil_append, List.cons_append, Option.map_some, Option.map_none, decide_eq_true_eq, Bool.not_eq_true', decide_eq_false_iff_not, Bool.false_eq_true, if_true, if_false, ite_self, if_false, rep_z, rep_s, lenOk, List.length_cons, List.length_nil]
        exact ⟨by omega, _, _, _, _, by simp [hL], rfl⟩
  · rintro e ⟨hi, L, o2, o3, o4, hL, rfl⟩
    rw [enm_len, List.length_map] at hi
    omega
theorem xf_piece (d : D) : gXf xsT "piece" (xD "BadText" ["piece"] [d]) = some (.val d) := by rfl
theorem heard_ok (n : Nat) (t : D) (d : D) (hd : ∀ l, d ≠ .list l) (h : call P n 2 [.val t] = .ret (.val d) [none]) : call P (n + 1) 10 [.val t] = .ret (.val d) [none] := by
  rw [call_eq m__law_heard rfl rfl]
  simp only [m__law_heard, h, xsT, sRaiseX_ap, rsK_i, rsK_s, rsK_0, sTry_ap, tryK_next, tryK_ret, tryK_exc, tryK_ite, catchX_ap, catchK_some, isN_x, fw_exc, cXf_eq, cIsX_eq, List.contains_cons, List.contains_nil, beq_self_eq_true, Bool.true_or, Bool.or_true, Bool.or_false, Bool.false_or, Nat.reduceBEq, Nat.reduceEqDiff, Nat.reduceLT, cLenI_ap, lenIK_l, lenIK_t, cSs_eq, cPop_ap, popK0_own, popF_some, popK_ap, sExt_ap, extK0_own, extK2_ap, extD_own, gFld_snap, cFld_eq, cPrp_ap, prpK_ap, noX_ok, cMb_ap, mbK_ap, mbK1_ap, mbK2_ap, rc_ixl, rc_spl, rc_joi, cFst_ap, fK0_ap, evF_nil, evF_cons, fK1_ap, fK2_ap, newK_ret, f_sumt, List.isEmpty_nil, List.isEmpty_cons, not_true_eq_false, not_false_eq_true, r_t, perm_cons, permC_some, List.getElem?_cons_zero, List.getElem?_cons_succ, at_0, at_1, at_2, at_3, at_4, at_last, List.length_map, reduceCtorEq, lcTurn_ap, lcK3_ap, lcK2_ap, lcE_some, evC_none, evC_some, wipe_nil, wipe_cons, rest_nil, rest_cons, fw_next, fw_ret, fw_brk, fw_cont, fw_ite, Nat.reduceAdd, Nat.reduceLeDiff, true_and, and_true, and_self, cRg1_ap, rg1K_f, rg1K_t, cRg2_ap, rg2K_ap, rg2K2_f, rg2K2_t, bind_ok, bind_no, bind_exc, bind_ite, opt_some, opt_none, opt_ite, val_okv, val_oko, val_no, val_exc, val_ite, opn_eq, flow_ok, flow_no, flow_exc, flow_ite, seq_next, seq_ret, seq_brk, seq_cont, seq_exc, seq_no, seq_ite, turn_next, turn_ret, turn_brk, turn_cont, turn_exc, turn_ite, done_next, done_ret, done_exc, done_ite, mask_nil, mask_t, mask_f, orNo_some, orNo_none, getS_z, getS_s, cVar_ap, rdV_val, rdV_own, cMov_ap, rdM_val, rdM_own, dat_val, dat_own, datV_eq, datS_val, datS_own, datR_eq, datSR_val, datSR_own, datSR_rd, cCon_ap, cVal_ap, cValK_ap, c1_ap, c1K_ap, c2_ap, c2K_ap, gO_some, c1V_ap, c2V_ap, c2V0_some, c2VK_ap, c2W_ap, c2WK_ap, bl_some, cBin_eq, cNeg_eq, cNot_eq, cCmp_eq, cIsN_eq, cSub_eq, cSubV_eq, cRev_eq, cRevV_eq, cInV_eq, cIsi_eq, cIsiV_eq, cBiV_ap, cChn_ap, chnKx_ap, chnKy_ap, chnK1_ap, chnK2_ap, cAnd_ap, andK_ap, andK2_ap, cOr_ap, orK_val, orK_own, orK2_ap, cIte_ap, iteK_ap, consK_ap, appK_ap, evs_nil, evs_cons, evsK_ap, evI_nil, evI_one, evIK_ap, evIA_ap, evI_star, evIS_ap, seqO_some, evI_starV, seqD_l, seqD_t, cLst_ap, lstK_ap, cTup_ap, tupK_ap, evO_none, someK_ap, evO_some, evOK_ap, intO_i, cSl_ap, slK1_ap, slK2_ap, slK3_ap, cSlV_ap, slV0_some, slVK1_ap, slVK2_ap, cBi_ap, biK_ap, evA_nil, evA_ref, evA0_some, evA_val, evAK_ap, cCall_ap, callK_ap, callK2_ap, back_ret, back_exc, putBack_nil, putBack_ref, putBack_val, atCall_nil, atCall_ref, consO_some, atC0_some, atCall_val, cCallK_ap, callKK_ap, callKK2_ap, perm_nil, tVal_ap, tvK_ap, tAnd_ap, tAndK_ap, tOr_ap, tOrK_ap, tNot_ap, tNotK_ap, iIt_ap, itK_ap, items_l, items_t, iRng1_ap, r1K_ap, iRng2_ap, r2K1_ap, r2K_ap, iZip_ap, zipK1_ap, zipK_ap, zipD_l, zipD_t, iEnm_ap, enmK_ap, enmD_l, enmD_t, sSeq_ap, keep_tv, keep_to, keep_fv, keep_fo, setF_some, sAsg_ap, asgK_ap, nxF_some, sAsgT_ap, asgTK_ap, bindT_nm, bindT_tt, bindT_tl, bindTs_nil, bndK_some, bindTs_cons, evSs_nil, evSs_cons, evSsK_ap, sPar_ap, parK_ap, setPar_nil, parO_some, setPar_cons, sSetIx_ap, sixK_ap, sixK2_some, sixK3_ap, setDN_some, setD_own, sApp_ap, appK0_own, appK2_ap, appD_own, setF_ite, sExp_ap, expK_ap, sIf_ap, ifK_ap, sFor_ap, forK_ap, sWhile_ap, ftK_some, forTurn_ap, retF_some, sRet_ap, retK_ap, sRetN_ap, sBrk_ap, sCont_ap, sPass_ap, cLc_ap, b_add, b_sub, b_mul, b_fdiv, b_mod, b_pow, b_addL, b_addT, b_mulL, b_mulT, n_neg, q_lt, q_le, q_gt, q_ge, q_eq, q_ne, q_eqb, q_neb, c_lt, c_le, c_gt, c_ge, c_eq, t_b, t_i, t_l, t_t, t_n, g_not, i_n, i_b, i_i, i_s, i_l, i_t, g_isn, g_isnn, gi_n, gi_b, gi_i, gi_s, gi_l, gi_t, f_max, f_min, f_abs, f_int, f_intb, f_lenl, f_lent, f_listl, f_listt, f_tupl, f_tupt, f_sum, f_all, f_any, f_sort, f_sortT, g_atl, g_att, s_l, s_t, r_l, List.set_cons_zero, List.set_cons_succ, List.map_cons, List.map_nil, List.nil_append, List.cons_append, Option.map_some, Option.map_none, decide_eq_true_eq, Bool.not_eq_true', decide_eq_false_iff_not, Bool.false_eq_true, if_true, if_false, ite_self, if_false, rep_z, rep_s, lenOk, List.length_cons, List.length_nil]
theorem heard_bad (n : Nat) (t : D) (k : Int) (h : call P n 2 [.val t] = .exc 0 [I k] [none]) : call P (n + 1) 10 [.val t] = .ret (.own [I k]) [none] := by
  rw [call_eq m__law_heard rfl rfl]
  simp only [m__law_heard, h, xf_piece, xsT, sRaiseX_ap, rsK_i, rsK_s, rsK_0, sTry_ap, tryK_next, tryK_ret, tryK_exc, tryK_ite, catchX_ap, catchK_some, isN_x, fw_exc, cXf_eq, cIsX_eq, List.contains_cons, List.contains_nil, beq_self_eq_true, Bool.true_or, Bool.or_true, Bool.or_false, Bool.false_or, Nat.reduceBEq, Nat.reduceEqDiff, Nat.reduceLT, cLenI_ap, lenIK_l, lenIK_t, cSs_eq, cPop_ap, popK0_own, popF_some, popK_ap, sExt_ap, extK0_own, extK2_ap, extD_own, gFld_snap, cFld_eq, cPrp_ap, prpK_ap, noX_ok, cMb_ap, mbK_ap, mbK1_ap, mbK2_ap, rc_ixl, rc_spl, rc_joi, cFst_ap, fK0_ap, evF_nil, evF_cons, fK1_ap, fK2_ap, newK_ret, f_sumt, List.isEmpty_nil, List.isEmpty_cons, not_true_eq_false, not_false_eq_true, r_t, perm_cons, permC_some, List.getElem?_cons_zero, List.getElem?_cons_succ, at_0, at_1, at_2, at_3, at_4, at_last, List.length_map, reduceCtorEq, lcTurn_ap, lcK3_ap, lcK2_ap, lcE_some, evC_none, evC_some, wipe_nil, wipe_cons, rest_nil, rest_cons, fw_next, fw_ret, fw_brk, fw_cont, fw_ite, Nat.reduceAdd, Nat.reduceLeDiff, true_and, and_true, and_self, cRg1_ap, rg1K_f, rg1K_t, cRg2_ap, rg2K_ap, rg2K2_f, rg2K2_t, bind_ok, bind_no, bind_exc, bind_ite, opt_some, opt_none, opt_ite, val_okv, val_oko, val_no, val_exc, val_ite, opn_eq, flow_ok, flow_no, flow_exc, flow_ite, seq_next, seq_ret, seq_brk, seq_cont, seq_exc, seq_no, seq_ite, turn_next, turn_ret, turn_brk, turn_cont, turn_exc, turn_ite, done_next, done_ret, done_exc, done_ite, mask_nil, mask_t, mask_f, orNo_some, orNo_none, getS_z, getS_s, cVar_ap, rdV_val, rdV_own, cMov_ap, rdM_val, rdM_own, dat_val, dat_own, datV_eq, datS_val, datS_own, datR_eq, datSR_val, datSR_own, datSR_rd, cCon_ap, cVal_ap, cValK_ap, c1_ap, c1K_ap, c2_ap, c2K_ap, gO_some, c1V_ap, c2V_ap, c2V0_some, c2VK_ap, c2W_ap, c2WK_ap, bl_some, cBin_eq, cNeg_eq, cNot_eq, cCmp_eq, cIsN_eq, cSub_eq, cSubV_eq, cRev_eq, cRevV_eq, cInV_eq, cIsi_eq, cIsiV_eq, cBiV_ap, cChn_ap, chnKx_ap, chnKy_ap, chnK1_ap, chnK2_ap, cAnd_ap, andK_ap, andK2_ap, cOr_ap, orK_val, orK_own, orK2_ap, cIte_ap, iteK_ap, consK_ap, appK_ap, evs_nil, evs_cons, evsK_ap, evI_nil, evI_one, evIK_ap, evIA_ap, evI_star, evIS_ap, seqO_some, evI_starV, seqD_l, seqD_t, cLst_ap, lstK_ap, cTup_ap, tupK_ap, evO_none, someK_ap, evO_some, evOK_ap, intO_i, cSl_ap, slK1_ap, slK2_ap, slK3_ap, cSlV_ap, slV0_some, slVK1_ap, slVK2_ap, cBi_ap, biK_ap, evA_nil, evA_ref, evA0_some, evA_val, evAK_ap, cCall_ap, callK_ap, callK2_ap, back_ret, back_exc, putBack_nil, putBack_ref, putBack_val, atCall_nil, atCall_ref, consO_some, atC0_some, atCall_val, cCallK_ap, callKK_ap, callKK2_ap, perm_nil, tVal_ap, tvK_ap, tAnd_ap, tAndK_ap, tOr_ap, tOrK_ap, tNot_ap, tNotK_ap, iIt_ap, itK_ap, items_l, items_t, iRng1_ap, r1K_ap, iRng2_ap, r2K1_ap, r2K_ap, iZip_ap, zipK1_ap, zipK_ap, zipD_l, zipD_t, iEnm_ap, enmK_ap, enmD_l, enmD_t, sSeq_ap, keep_tv, keep_to, keep_fv, keep_fo, setF_some, sAsg_ap, asgK_ap, nxF_some, sAsgT_ap, asgTK_ap, bindT_nm, bindT_tt, bindT_tl, bindTs_nil, bndK_some, bindTs_cons, evSs_nil, evSs_cons, evSsK_ap, sPar_ap, parK_ap, setPar_nil, parO_some, setPar_cons, sSetIx_ap, sixK_ap, sixK2_some, sixK3_ap, setDN_some, setD_own, sApp_ap, appK0_own, appK2_ap, appD_own, setF_ite, sExp_ap, expK_ap, sIf_ap, ifK_ap, sFor_ap, forK_ap, sWhile_ap, ftK_some, forTurn_ap, retF_some, sRet_ap, retK_ap, sRetN_ap, sBrk_ap, sCont_ap, sPass_ap, cLc_ap, b_add, b_sub, b_mul, b_fdiv, b_mod, b_pow, b_addL, b_addT, b_mulL, b_mulT, n_neg, q_lt, q_le, q_gt, q_ge, q_eq, q_ne, q_eqb, q_neb, c_lt, c_le, c_gt, c_ge, c_eq, t_b, t_i, t_l, t_t, t_n, g_not, i_n, i_b, i_i, i_s, i_l, i_t, g_isn, g_isnn, gi_n, gi_b, gi_i, gi_s, gi_l, gi_t, f_max, f_min, f_abs, f_int, f_intb, f_lenl, f_lent, f_listl, f_listt, f_tupl, f_tupt, f_sum, f_all, f_any, f_sort, f_sortT, g_atl, g_att, s_l, s_t, r_l, List.set_cons_zero, List.set_cons_succ, List.map_cons, List.map_nil, List.nil_append, List.cons_append, Option.map_some, Option.map_none, decide_eq_true_eq, Bool.not_eq_true', decide_eq_false_iff_not, Bool.false_eq_true, if_true, if_false, ite_self, if_false, rep_z, rep_s, lenOk, List.length_cons, List.length_nil]
theorem numZ_bad {l : List Nat} (h : ∃ c ∈ l, isDig c = false) : numZ l = none := by
  obtain ⟨c, hc, hd⟩ := h
  unfold numZ
  rw [if_pos]
  right; left
  cases e : l.all isDig with
  | false => rfl
  | true => rw [List.all_eq_true.mp e c hc] at hd; cases hd
theorem runW_tail {l : List Nat} {x : Nat} (h : ∃ c ∈ l, isDig c = false) : runW (x :: l) = none := by
  unfold runW
  rw [if_neg (by simp)]
  show (match numZ l with | none => none | some n => if n = 0 ∨ (x ≠ 43 ∧ x ≠ 45) then none else some (if x = 43 then n else -n)) = none
  rw [numZ_bad h]
theorem runW_sign {l : List Nat} {x : Nat} (h : x ≠ 43 ∧ x ≠ 45) : runW (x :: l) = none := by
  unfold runW
  rw [if_neg (by simp)]
  show (match numZ l with | none => none | some n => if n = 0 ∨ (x ≠ 43 ∧ x ≠ 45) then none else some (if x = 43 then n else -n)) = none
  cases numZ l with
  | none => rfl
  | some n => dsimp only; rw [if_pos (.inr h)]
theorem runCs_sgn (r : Int) : ∃ s t, runCs r = s :: t ∧ (s = 43 ∨ s = 45) ∧ t = natCs r.natAbs := by
  unfold runCs
  split
  · exact ⟨_, _, rfl, .inl rfl, rfl⟩
  · exact ⟨_, _, rfl, .inr rfl, rfl⟩
theorem natCs_dig (n : Nat) : ∀ c ∈ natCs n, isDig c = true := (Bt.natCs_ok n).dig
/-- what a bent piece is -/
structure Bad (w : List Nat) : Prop where
  z : runW w = none
  nb : ∀ c ∈ w, c ≠ 32
  ln : w.length ≤ 60
theorem bad_end (r : Int) (h : r.natAbs < 10 ^ 30) (c : Nat) (hc : c = 120 ∨ c = 43 ∨ c = 45 ∨ c = 46 ∨ c = 95 ∨ c = 44) : Bad (runCs r ++ [c]) := by
  obtain ⟨s, t, e, hs, _⟩ := runCs_sgn r
  have dg := runCs_dig r
  have ln := runCs_len h (by omega)
  refine ⟨?_, fun x hx => ?_, by simp; omega⟩
  · rw [e, List.cons_append]
    exact runW_tail ⟨c, by simp, by unfold isDig; rcases hc with rfl | rfl | rfl | rfl | rfl | rfl <;> rfl⟩
  · rcases List.mem_append.mp hx with q | q
    · rcases dg x q with rfl | rfl | z
      · decide
      · decide
      · unfold isDig at z; simp at z; omega
    · cases List.mem_singleton.mp q
      rcases hc with rfl | rfl | rfl | rfl | rfl | rfl <;> decide
theorem bad_tail (r : Int) (h : r.natAbs < 10 ^ 30) : Bad ((runCs r).drop 1) := by
  obtain ⟨s, t, e, hs, rfl⟩ := runCs_sgn r
  have ln := runCs_len h (by omega)
  have dg := natCs_dig r.natAbs
  rw [e] at ln ⊢
  rw [List.drop_succ_cons, List.drop_zero]
  refine ⟨?_, fun x hx => ?_, by simp at ln; omega⟩
  · cases ht : natCs r.natAbs with
    | nil => rfl
    | cons d l =>
      have q := dg d (by rw [ht]; exact List.mem_cons_self ..)
      unfold isDig at q
      simp at q
      exact runW_sign (by omega)
  · have z := dg x hx
    unfold isDig at z; simp at z; omega
theorem bad_head (r : Int) (h : r.natAbs < 10 ^ 30) (c : Nat) (hc : c = 43 ∨ c = 45 ∨ c = 48 ∨ c = 120) : Bad (c :: runCs r) := by
  obtain ⟨s, t, e, hs, _⟩ := runCs_sgn r
  have dg := runCs_dig r
  have ln := runCs_len h (by omega)
  refine ⟨?_, fun x hx => ?_, by simp; omega⟩
  · exact runW_tail ⟨s, by rw [e]; exact List.mem_cons_self .., by unfold isDig; rcases hs with rfl | rfl <;> rfl⟩
  · rcases List.mem_cons.mp hx with q | q
    · subst q
      rcases hc with rfl | rfl | rfl | rfl <;> decide
    · rcases dg x q with rfl | rfl | z
      · decide
      · decide
      · unfold isDig at z; simp at z; omega
theorem bad_some (w : List Nat) (hw : w = [] ∨ w = [43] ∨ w = [45] ∨ w = [48] ∨ w = [43, 48] ∨ w = [97, 108, 108]) : Bad w := by
  rcases hw with rfl | rfl | rfl | rfl | rfl | rfl <;> exact ⟨by decide, by decide, by decide⟩
theorem str_app (a b : List Nat) (hab : a.length + b.length ≤ 1000) : gBin .add (.str (S a)) (.str (S b)) = some (.val (.str (S (a ++ b)))) := by
  show ((if decide ((S a).length + (S b).length ≤ sizeLine) = true then some (PyData.str (S a ++ S b)) else none).map fresh) = _
  rw [S_len, S_len, if_pos (decide_eq_true (by rw [lenOk]; omega)), Bt.S_app]; rfl
theorem case_ok (n : Nat) {B : Int} {bx : List D} (hB : B < 2 ^ 48) (h : Box B bx) : ∃ bx' : List D, call P (n + 10) 12 [.own bx] = .ret (.val (.bool true)) [some (.own bx')] ∧ Box (B + 400) bx' := by
  obtain ⟨rs, bx1, t1, ⟨r1, r2, r3⟩, hb1⟩ := row_ok (n + 6) (most := 6) (by omega) h (by omega) (by omega)
  have w1 := words_ok (n + 8) rs r3 (by omega)
  have rl : 0 < rs.length := List.length_pos_iff.mpr r1
  obtain ⟨k, bx2, t2, k1, k2, hb2⟩ := take_ok (n + 8) (s := (rs.map runCs).length) (by omega) (by rw [List.length_map]; omega) (div_ok (by rw [List.length_map]; omega) (by rw [List.length_map]; exact Int.lt_of_le_of_lt (b := 100) (by omega) (by decide +kernel))) hb1
  obtain ⟨way, bx3, t3, y1, y2, hb3⟩ := take_ok (n + 8) (s := 4) (by omega) (by omega) (by decide +kernel) hb2
  rw [List.length_map] at k2
  have tlen := text_len r3 (by omega)
  have ml : rs.length * (30 + 2) ≤ 6 * 32 := Nat.mul_le_mul_right _ (by omega)
  have sp := split_ok (joinL [32] (rs.map runCs)) (by rw [lenOk]; omega)
  rw [cut_join 32 _ (by simpa using r1) (words_nb r3)] at sp
  obtain ⟨kn, rfl⟩ : ∃ kn : Nat, k = kn := ⟨k.toNat, by omega⟩
  have hkn : kn < rs.length := by omega
  obtain ⟨r, hr⟩ : ∃ r, rs[kn]? = some r := ⟨rs[kn], List.getElem?_eq_getElem hkn⟩
  have hrm := r3 r (List.mem_of_getElem? hr)
  have hat : atL ((rs.map runCs).map fun w => PyData.str (S w)) (kn : Int) = some (.str (S (runCs r))) := by
    rw [atL_nn (by omega) (by simp; omega)]
    have : ((rs.map runCs).map fun w => PyData.str (S w))[kn]? = some (.str (S (runCs r))) := by rw [List.getElem?_map, List.getElem?_map, hr]; rfl
    rw [List.getElem?_eq_getElem (by simpa using hkn)] at this
    exact this
  have hix : ixOf rs.length (kn : Int) = some kn := by
    rw [ix_nn (by omega) (by omega), Int.toNat_natCast]
  -- what the bent row tells
  have fin : ∀ w, Bad w → ∃ d, mbD .join (.str (S [32])) [.list ((((rs.map runCs).map fun w => PyData.str (S w))).set kn (.str (S w)))] = some (.val d) ∧ call P (n + 9) 10 [.val d] = .ret (.own [I kn]) [none] := by
    intro w hw
    have e : (((rs.map runCs).map fun w => PyData.str (S w))).set kn (.str (S w)) = ((rs.map runCs).set kn w).map fun w => PyData.str (S w) := by rw [List.map_set]
    have mem : ∀ v ∈ (rs.map runCs).set kn w, v = w ∨ v ∈ rs.map runCs := fun v hv => (List.mem_or_eq_of_mem_set hv).elim .inr .inl
    have ln : ∀ v ∈ (rs.map runCs).set kn w, v.length ≤ 60 := fun v hv => by
      rcases mem v hv with rfl | q
      · exact hw.ln
      · obtain ⟨r, hr, rfl⟩ := List.mem_map.mp q
        have := runCs_len (r3 r hr).2 (by omega)
        omega
    have j := join_ok ((rs.map runCs).set kn w) (m := 60) ln (by rw [List.length_set, List.length_map]; omega)
    refine ⟨_, by rw [e]; exact j, heard_bad (n + 8) _ _ (rfrom_bad (n + 5) _ kn (fun v hv => ?_) (fun v hv => by have := ln v hv; omega) (by rw [List.length_set, List.length_map]; omega) (fun j v hj hv => ?_) w ?_ hw.z)⟩
    · rcases mem v hv with rfl | q
      · exact hw.nb
      · exact words_nb r3 v q
    · rw [List.getElem?_set_ne (by omega), List.getElem?_map] at hv
      obtain ⟨r', h1, rfl⟩ := Option.map_eq_some_iff.mp hv
      refine ⟨r', ?_⟩
      unfold runW
      rw [if_neg (runCs_ne r')]
      exact runZ_run (r3 r' (List.mem_of_getElem? h1)).1
    · rw [List.getElem?_set_self (by simpa using hkn)]
  have x3 := heard_ok (n + 8) _ _ (fun _ z => by cases z) (rfrom_ok (n + 5) rs r1 r3 (by omega) (by omega) (by omega))
  have sm := same8 (n + 1) (d := .list [.list [I kn], .tuple (rs.map .int)]) (by simp only [okD, okL, and_true, true_and, List.length_map, List.length_cons, List.length_nil]; exact ⟨by omega, by omega, by omega, okL_int _⟩) (by simp only [dpD, dpL, dpL_int]; omega) (.own _) (.own _) rfl rfl
  generalize hM : (rs.map runCs).map (fun w => PyData.str (S w)) = M at *
  have hw : way = 0 ∨ way = 1 ∨ way = 2 ∨ way = 3 := by omega
  have c01 : ¬ (1 : Int) = 0 := by omega
  have c20 : ¬ (2 : Int) = 0 := by omega
  have c21 : ¬ (2 : Int) = 1 := by omega
  have c30 : ¬ (3 : Int) = 0 := by omega
  have c31 : ¬ (3 : Int) = 1 := by omega
  have c32 : ¬ (3 : Int) = 2 := by omega
  have ml : M.length = rs.length := by rw [← hM]; simp
  rw [List.length_map] at t2
  have rl2 := runCs_len hrm.2 (by omega)
  rcases hw with rfl | rfl | rfl | rfl
  · obtain ⟨od, bx4, t4, o1, hb4⟩ := of_ok (n + 7) (by omega) [.str (S [120]), .str (S [43]), .str (S [45]), .str (S [46]), .str (S [95]), .str (S [44])] (by simp) (by show 6 ≤ 16777216; omega) hb3 _ (.inl rfl)
    obtain ⟨c, rfl, hc⟩ : ∃ c, od = .str (S [c]) ∧ (c = 120 ∨ c = 43 ∨ c = 45 ∨ c = 46 ∨ c = 95 ∨ c = 44) := by
      simp only [List.mem_cons, List.not_mem_nil, or_false] at o1
      rcases o1 with rfl | rfl | rfl | rfl | rfl | rfl <;> exact ⟨_, rfl, by simp⟩
    obtain ⟨d, f1, f2⟩ := fin _ (bad_end r hrm.2 c hc)
    have sa := str_app (runCs r) [c] (by simp; omega)
    refine ⟨bx4, ?_, hb4.mono (by omega)⟩
    rw [call_eq m__law_case_right rfl rfl]
    simp only [m__law_case_right, t1, w1, sp, t2, t3, t4, ml, hat, hix, sa, f1, f2, x3, sm, decide_true, show (0 : Nat) + 1 + 1 + 1 + 1 + 1 + 1 ≤ 16777216 by omega, cLenI_ap, lenIK_l, lenIK_t, cSs_eq, cPop_ap, popK0_own, popF_some, popK_ap, sExt_ap, extK0_own, extK2_ap, extD_own, gFld_snap, cFld_eq, cPrp_ap, prpK_ap, noX_ok, cMb_ap, mbK_ap, mbK1_ap, mbK2_ap, rc_ixl, rc_spl, rc_joi, cFst_ap, fK0_ap, evF_nil, evF_cons, fK1_ap, fK2_ap, newK_ret, f_sumt, List.isEmpty_nil, List.isEmpty_cons, not_true_eq_false, not_false_eq_true, r_t, perm_cons, permC_some, List.getElem?_cons_zero, List.getElem?_cons_succ, at_0, at_1, at_2, at_3, at_4, at_last, List.length_map, reduceCtorEq, lcTurn_ap, lcK3_ap, lcK2_ap, lcE_some, evC_none, evC_some, wipe_nil, wipe_cons, rest_nil, rest_cons, fw_next, fw_ret, fw_brk, fw_cont, fw_ite, Nat.reduceAdd, Nat.reduceLeDiff, true_and, and_true, and_self, cRg1_ap, rg1K_f, rg1K_t, cRg2_ap, rg2K_ap, rg2K2_f, rg2K2_t, bind_ok, bind_no, bind_exc, bind_ite, opt_some, opt_none, opt_ite, val_okv, val_oko, val_no, val_exc, val_ite, opn_eq, flow_ok, flow_no, flow_exc, flow_ite, seq_next, seq_ret, seq_brk, seq_cont, seq_exc, seq_no, seq_ite, turn_next, turn_ret, turn_brk, turn_cont, turn_exc, turn_ite, done_next, done_ret, done_exc, done_ite, mask_nil, mask_t, mask_f, orNo_some, orNo_none, getS_z, getS_s, cVar_ap, rdV_val, rdV_own, cMov_ap, rdM_val, rdM_own, dat_val, dat_own, datV_eq, datS_val, datS_own, datR_eq, datSR_val, datSR_own, datSR_rd, cCon_ap, cVal_ap, cValK_ap, c1_ap, c1K_ap, c2_ap, c2K_ap, gO_some, c1V_ap, c2V_ap, c2V0_some, c2VK_ap, c2W_ap, c2WK_ap, bl_some, cBin_eq, cNeg_eq, cNot_eq, cCmp_eq, cIsN_eq, cSub_eq, cSubV_eq, cRev_eq, cRevV_eq, cInV_eq, cIsi_eq, cIsiV_eq, cBiV_ap, cChn_ap, chnKx_ap, chnKy_ap, chnK1_ap, chnK2_ap, cAnd_ap, andK_ap, andK2_ap, cOr_ap, orK_val, orK_own, orK2_ap, cIte_ap, iteK_ap, consK_ap, appK_ap, evs_nil, evs_cons, evsK_ap, evI_nil, evI_one, evIK_ap, evIA_ap, evI_star, evIS_ap, seqO_some, evI_starV, seqD_l, seqD_t, cLst_ap, lstK_ap, cTup_ap, tupK_ap, evO_none, someK_ap, evO_some, evOK_ap, intO_i, cSl_ap, slK1_ap, slK2_ap, slK3_ap, cSlV_ap, slV0_some, slVK1_ap, slVK2_ap, cBi_ap, biK_ap, evA_nil, evA_ref, evA0_some, evA_val, evAK_ap, cCall_ap, callK_ap, callK2_ap, back_ret, back_exc, putBack_nil, putBack_ref, putBack_val, atCall_nil, atCall_ref, consO_some, atC0_some, atCall_val, cCallK_ap, callKK_ap, callKK2_ap, perm_nil, tVal_ap, tvK_ap, tAnd_ap, tAndK_ap, tOr_ap, tOrK_ap, tNot_ap, tNotK_ap, iIt_ap, itK_ap, items_l, items_t, iRng1_ap, r1K_ap, iRng2_ap, r2K1_ap, r2K_ap, iZip_ap, zipK1_ap, zipK_ap, zipD_l, zipD_t, iEnm_ap, enmK_ap, enmD_l, enmD_t, sSeq_ap, keep_tv, keep_to, keep_fv, keep_fo, setF_some, sAsg_ap, asgK_ap, nxF_some, sAsgT_ap, asgTK_ap, bindT_nm, bindT_tt, bindT_tl, bindTs_nil, bndK_some, bindTs_cons, evSs_nil, evSs_cons, evSsK_ap, sPar_ap, parK_ap, setPar_nil, parO_some, setPar_cons, sSetIx_ap, sixK_ap, sixK2_some, sixK3_ap, setDN_some, setD_own, sApp_ap, appK0_own, appK2_ap, appD_own, setF_ite, sExp_ap, expK_ap, sIf_ap, ifK_ap, sFor_ap, forK_ap, sWhile_ap, ftK_some, forTurn_ap, retF_some, sRet_ap, retK_ap, sRetN_ap, sBrk_ap, sCont_ap, sPass_ap, cLc_ap, b_add, b_sub, b_mul, b_fdiv, b_mod, b_pow, b_addL, b_addT, b_mulL, b_mulT, n_neg, q_lt, q_le, q_gt, q_ge, q_eq, q_ne, q_eqb, q_neb, c_lt, c_le, c_gt, c_ge, c_eq, t_b, t_i, t_l, t_t, t_n, g_not, i_n, i_b, i_i, i_s, i_l, i_t, g_isn, g_isnn, gi_n, gi_b, gi_i, gi_s, gi_l, gi_t, f_max, f_min, f_abs, f_int, f_intb, f_lenl, f_lent, f_listl, f_listt, f_tupl, f_tupt, f_sum, f_all, f_any, f_sort, f_sortT, g_atl, g_att, s_l, s_t, r_l, List.set_cons_zero, List.set_cons_succ, List.map_cons, List.map_nil, List.nil_append, List.cons_append, Option.map_some, Option.map_none, decide_eq_true_eq, Bool.not_eq_true', decide_eq_false_iff_not, Bool.false_eq_true, if_true, if_false, ite_self, if_false, rep_z, rep_s, lenOk, List.length_cons, List.length_nil]
  · obtain ⟨d, f1, f2⟩ := fin _ (bad_tail r hrm.2)
    have ts := tail_S (runCs r) (by rw [lenOk]; omega)
    refine ⟨bx3, ?_, hb3.mono (by omega)⟩
    rw [call_eq m__law_case_right rfl rfl]
    simp only [m__law_case_right, t1, w1, sp, t2, t3, ml, hat, hix, ts, f1, f2, x3, sm, c01, decide_true, decide_false, cLenI_ap, lenIK_l, lenIK_t, cSs_eq, cPop_ap, popK0_own, popF_some, popK_ap, sExt_ap, extK0_own, extK2_ap, extD_own, gFld_snap, cFld_eq, cPrp_ap, prpK_ap, noX_ok, cMb_ap, mbK_ap, mbK1_ap, mbK2_ap, rc_ixl, rc_spl, rc_joi, cFst_ap, fK0_ap, evF_nil, evF_cons, fK1_ap, fK2_ap, newK_ret, f_sumt, List.isEmpty_nil, List.isEmpty_cons, not_true_eq_false, not_false_eq_true, r_t, perm_cons, permC_some, List.getElem?_cons_zero, List.getElem?_cons_succ, at_0, at_1, at_2, at_3, at_4, at_last, List.length_map, reduceCtorEq, lcTurn_ap, lcK3_ap, lcK2_ap, lcE_some, evC_none, evC_some, wipe_nil, wipe_cons, rest_nil, rest_cons, fw_next, fw_ret, fw_brk, fw_cont, fw_ite, Nat.reduceAdd, Nat.reduceLeDiff, true_and, and_true, and_self, cRg1_ap, rg1K_f, rg1K_t, cRg2_ap, rg2K_ap, rg2K2_f, rg2K2_t, bind_ok, bind_no, bind_exc, bind_ite, opt_some, opt_none, opt_ite, val_okv, val_oko, val_no, val_exc, val_ite, opn_eq, flow_ok, flow_no, flow_exc, flow_ite, seq_next, seq_ret, seq_brk, seq_cont, seq_exc, seq_no, seq_ite, turn_next, turn_ret, turn_brk, turn_cont, turn_exc, turn_ite, done_next, done_ret, done_exc, done_ite, mask_nil, mask_t, mask_f, orNo_some, orNo_none, getS_z, getS_s, cVar_ap, rdV_val, rdV_own, cMov_ap, rdM_val, rdM_own, dat_val, dat_own, datV_eq, datS_val, datS_own, datR_eq, datSR_val, datSR_own, datSR_rd, cCon_ap, cVal_ap, cValK_ap, c1_ap, c1K_ap, c2_ap, c2K_ap, gO_some, c1V_ap, c2V_ap, c2V0_some, c2VK_ap, c2W_ap, c2WK_ap, bl_some, cBin_eq, cNeg_eq, cNot_eq, cCmp_eq, cIsN_eq, cSub_eq, cSubV_eq, cRev_eq, cRevV_eq, cInV_eq, cIsi_eq, cIsiV_eq, cBiV_ap, cChn_ap, chnKx_ap, chnKy_ap, chnK1_ap, chnK2_ap, cAnd_ap, andK_ap, andK2_ap, cOr_ap, orK_val, orK_own, orK2_ap, cIte_ap, iteK_ap, consK_ap, appK_ap, evs_nil, evs_cons, evsK_ap, evI_nil, evI_one, evIK_ap, evIA_ap, evI_star, evIS_ap, seqO_some, evI_starV, seqD_l, seqD_t, cLst_ap, lstK_ap, cTup_ap, tupK_ap, evO_none, someK_ap, evO_some, evOK_ap, intO_i, cSl_ap, slK1_ap, slK2_ap, slK3_ap, cSlV_ap, slV0_some, slVK1_ap, slVK2_ap, cBi_ap, biK_ap, evA_nil, evA_ref, evA0_some, evA_val, evAK_ap, cCall_ap, callK_ap, callK2_ap, back_ret, back_exc, putBack_nil, putBack_ref, putBack_val, atCall_nil, atCall_ref, consO_some, atC0_some, atCall_val, cCallK_ap, callKK_ap, callKK2_ap, perm_nil, tVal_ap, tvK_ap, tAnd_ap, tAndK_ap, tOr_ap, tOrK_ap, tNot_ap, tNotK_ap, iIt_ap, itK_ap, items_l, items_t, iRng1_ap, r1K_ap, iRng2_ap, r2K1_ap, r2K_ap, iZip_ap, zipK1_ap, zipK_ap, zipD_l, zipD_t, iEnm_ap, enmK_ap, enmD_l, enmD_t, sSeq_ap, keep_tv, keep_to, keep_fv, keep_fo, setF_some, sAsg_ap, asgK_ap, nxF_some, sAsgT_ap, asgTK_ap, bindT_nm, bindT_tt, bindT_tl, bindTs_nil, bndK_some, bindTs_cons, evSs_nil, evSs_cons, evSsK_ap, sPar_ap, parK_ap, setPar_nil, parO_some, setPar_cons, sSetIx_ap, sixK_ap, sixK2_some, sixK3_ap, setDN_some, setD_own, sApp_ap, appK0_own, appK2_ap, appD_own, setF_ite, sExp_ap, expK_ap, sIf_ap, ifK_ap, sFor_ap, forK_ap, sWhile_ap, ftK_some, forTurn_ap, retF_some, sRet_ap, retK_ap, sRetN_ap, sBrk_ap, sCont_ap, sPass_ap, cLc_ap, b_add, b_sub, b_mul, b_fdiv, b_mod, b_pow, b_addL, b_addT, b_mulL, b_mulT, n_neg, q_lt, q_le, q_gt, q_ge, q_eq, q_ne, q_eqb, q_neb, c_lt, c_le, c_gt, c_ge, c_eq, t_b, t_i, t_l, t_t, t_n, g_not, i_n, i_b, i_i, i_s, i_l, i_t, g_isn, g_isnn, gi_n, gi_b, gi_i, gi_s, gi_l, gi_t, f_max, f_min, f_abs, f_int, f_intb, f_lenl, f_lent, f_listl, f_listt, f_tupl, f_tupt, f_sum, f_all, f_any, f_sort, f_sortT, g_atl, g_att, s_l, s_t, r_l, List.set_cons_zero, List.set_cons_succ, List.map_cons, List.map_nil, List.nil_append, List.cons_append, Option.map_some, Option.map_none, decide_eq_true_eq, Bool.not_eq_true', decide_eq_false_iff_not, Bool.false_eq_true, if_true, if_false, ite_self, if_false, rep_z, rep_s, lenOk, List.length_cons, List.length_nil]
  · obtain ⟨od, bx4, t4, o1, hb4⟩ := of_ok (n + 7) (by omega) [.str (S []), .str (S [43]), .str (S [45]), .str (S [48]), .str (S [43, 48]), .str (S [97, 108, 108])] (by simp) (by show 6 ≤ 16777216; omega) hb3 _ (.inl rfl)
    obtain ⟨w, rfl, hw⟩ : ∃ w, od = .str (S w) ∧ (w = [] ∨ w = [43] ∨ w = [45] ∨ w = [48] ∨ w = [43, 48] ∨ w = [97, 108, 108]) := by
      simp only [List.mem_cons, List.not_mem_nil, or_false] at o1
      rcases o1 with rfl | rfl | rfl | rfl | rfl | rfl <;> exact ⟨_, rfl, by simp⟩
    obtain ⟨d, f1, f2⟩ := fin _ (bad_some w hw)
    refine ⟨bx4, ?_, hb4.mono (by omega)⟩
    rw [call_eq m__law_case_right rfl rfl]
    simp only [m__law_case_right, t1, w1, sp, t2, t3, t4, ml, hat, hix, f1, f2, x3, sm, c20, c21, decide_true, decide_false, show (0 : Nat) + 1 + 1 + 1 + 1 + 1 + 1 ≤ 16777216 by omega, cLenI_ap, lenIK_l, lenIK_t, cSs_eq, cPop_ap, popK0_own, popF_some, popK_ap, sExt_ap, extK0_own, extK2_ap, extD_own, gFld_snap, cFld_eq, cPrp_ap, prpK_ap, noX_ok, cMb_ap, mbK_ap, mbK1_ap, mbK2_ap, rc_ixl, rc_spl, rc_joi, cFst_ap, fK0_ap, evF_nil, evF_cons, fK1_ap, fK2_ap, newK_ret, f_sumt, List.isEmpty_nil, List.isEmpty_cons, not_true_eq_false, not_false_eq_true, r_t, perm_cons, permC_some, List.getElem?_cons_zero, List.getElem?_cons_succ, at_0, at_1, at_2, at_3, at_4, at_last, List.length_map, reduceCtorEq, lcTurn_ap, lcK3_ap, lcK2_ap, lcE_some, evC_none, evC_some, wipe_nil, wipe_cons, rest_nil, rest_cons, fw_next, fw_ret, fw_brk, fw_cont, fw_ite, Nat.reduceAdd, Nat.reduceLeDiff, true_and, and_true, and_self, cRg1_ap, rg1K_f, rg1K_t, cRg2_ap, rg2K_ap, rg2K2_f, rg2K2_t, bind_ok, bind_no, bind_exc, bind_ite, opt_some, opt_none, opt_ite, val_okv, val_oko, val_no, val_exc, val_ite, opn_eq, flow_ok, flow_no, flow_exc, flow_ite, seq_next, seq_ret, seq_brk, seq_cont, seq_exc, seq_no, seq_ite, turn_next, turn_ret, turn_brk, turn_cont, turn_exc, turn_ite, done_next, done_ret, done_exc, done_ite, mask_nil, mask_t, mask_f, orNo_some, orNo_none, getS_z, getS_s, cVar_ap, rdV_val, rdV_own, cMov_ap, rdM_val, rdM_own, dat_val, dat_own, datV_eq, datS_val, datS_own, datR_eq, datSR_val, datSR_own, datSR_rd, cCon_ap, cVal_ap, cValK_ap, c1_ap, c1K_ap, c2_ap, c2K_ap, gO_some, c1V_ap, c2V_ap, c2V0_some, c2VK_ap, c2W_ap, c2WK_ap, bl_some, cBin_eq, cNeg_eq, cNot_eq, cCmp_eq, cIsN_eq, cSub_eq, cSubV_eq, cRev_eq, cRevV_eq, cInV_eq, cIsi_eq, cIsiV_eq, cBiV_ap, cChn_ap, chnKx_ap, chnKy_ap, chnK1_ap, chnK2_ap, cAnd_ap, andK_ap, andK2_ap, cOr_ap, orK_val, orK_own, orK2_ap, cIte_ap, iteK_ap, consK_ap, appK_ap, evs_nil, evs_cons, evsK_ap, evI_nil, evI_one, evIK_ap, evIA_ap, evI_star, evIS_ap, seqO_some, evI_starV, seqD_l, seqD_t, cLst_ap, lstK_ap, cTup_ap, tupK_ap, evO_none, someK_ap, evO_some, evOK_ap, intO_i, cSl_ap, slK1_ap, slK2_ap, slK3_ap, cSlV_ap, slV0_some, slVK1_ap, slVK2_ap, cBi_ap, biK_ap, evA_nil, evA_ref, evA0_some, evA_val, evAK_ap, cCall_ap, callK_ap, callK2_ap, back_ret, back_exc, putBack_nil, putBack_ref, putBack_val, atCall_nil, atCall_ref, consO_some, atC0_some, atCall_val, cCallK_ap, callKK_ap, callKK2_ap, perm_nil, tVal_ap, tvK_ap, tAnd_ap, tAndK_ap, tOr_ap, tOrK_ap, tNot_ap, tNotK_ap, iIt_ap, itK_ap, items_l, items_t, iRng1_ap, r1K_ap, iRng2_ap, r2K1_ap, r2K_ap, iZip_ap, zipK1_ap, zipK_ap, zipD_l, zipD_t, iEnm_ap, enmK_ap, enmD_l, enmD_t, sSeq_ap, keep_tv, keep_to, keep_fv, keep_fo, setF_some, sAsg_ap, asgK_ap, nxF_some, sAsgT_ap, asgTK_ap, bindT_nm, bindT_tt, bindT_tl, bindTs_nil, bndK_some, bindTs_cons, evSs_nil, evSs_cons, evSsK_ap, sPar_ap, parK_ap, setPar_nil, parO_some, setPar_cons, sSetIx_ap, sixK_ap, sixK2_some, sixK3_ap, setDN_some, setD_own, sApp_ap, appK0_own, appK2_ap, appD_own, setF_ite, sExp_ap, expK_ap, sIf_ap, ifK_ap, sFor_ap, forK_ap, sWhile_ap, ftK_some, forTurn_ap, retF_some, sRet_ap, retK_ap, sRetN_ap, sBrk_ap, sCont_ap, sPass_ap, cLc_ap, b_add, b_sub, b_mul, b_fdiv, b_mod, b_pow, b_addL, b_addT, b_mulL, b_mulT, n_neg, q_lt, q_le, q_gt, q_ge, q_eq, q_ne, q_eqb, q_neb, c_lt, c_le, c_gt, c_ge, c_eq, t_b, t_i, t_l, t_t, t_n, g_not, i_n, i_b, i_i, i_s, i_l, i_t, g_isn, g_isnn, gi_n, gi_b, gi_i, gi_s, gi_l, gi_t, f_max, f_min, f_abs, f_int, f_intb, f_lenl, f_lent, f_listl, f_listt, f_tupl, f_tupt, f_sum, f_all, f_any, f_sort, f_sortT, g_atl, g_att, s_l, s_t, r_l, List.set_cons_zero, List.set_cons_succ, List.map_cons, List.map_nil, List.nil_append, List.cons_append, Option.map_some, Option.map_none, decide_eq_true_eq, Bool.not_eq_true', decide_eq_false_iff_not, Bool.false_eq_true, if_true, if_false, ite_self, if_false, rep_z, rep_s, lenOk, List.length_cons, List.length_nil]
  · obtain ⟨od, bx4, t4, o1, hb4⟩ := of_ok (n + 7) (by omega) [.str (S [43]), .str (S [45]), .str (S [48]), .str (S [120])] (by simp) (by show 4 ≤ 16777216; omega) hb3 _ (.inl rfl)
    obtain ⟨c, rfl, hc⟩ : ∃ c, od = .str (S [c]) ∧ (c = 43 ∨ c = 45 ∨ c = 48 ∨ c = 120) := by
      simp only [List.mem_cons, List.not_mem_nil, or_false] at o1
      rcases o1 with rfl | rfl | rfl | rfl <;> exact ⟨_, rfl, by simp⟩
    obtain ⟨d, f1, f2⟩ := fin _ (bad_head r hrm.2 c hc)
    have sa := str_app [c] (runCs r) (by simp; omega)
    rw [List.cons_append, List.nil_append] at sa
    refine ⟨bx4, ?_, hb4.mono (by omega)⟩
    rw [call_eq m__law_case_right rfl rfl]
    simp only [m__law_case_right, t1, w1, sp, t2, t3, t4, ml, hat, hix, sa, f1, f2, x3, sm, c30, c31, c32, decide_true, decide_false, show (0 : Nat) + 1 + 1 + 1 + 1 ≤ 16777216 by omega, cLenI_ap, lenIK_l, lenIK_t, cSs_eq, cPop_ap, popK0_own, popF_some, popK_ap, sExt_ap, extK0_own, extK2_ap, extD_own, gFld_snap, cFld_eq, cPrp_ap, prpK_ap, noX_ok, cMb_ap, mbK_ap, mbK1_ap, mbK2_ap, rc_ixl, rc_spl, rc_joi, cFst_ap, fK0_ap, evF_nil, evF_cons, fK1_ap, fK2_ap, newK_ret, f_sumt, List.isEmpty_nil, List.isEmpty_cons, not_true_eq_false, not_false_eq_true, r_t, perm_cons, permC_some, List.getElem?_cons_zero, List.getElem?_cons_succ, at_0, at_1, at_2, at_3, at_4, at_last, List.length_map, reduceCtorEq, lcTurn_ap, lcK3_ap, lcK2_ap, lcE_some, evC_none, evC_some, wipe_nil, wipe_cons, rest_nil, rest_cons, fw_next, fw_ret, fw_brk, fw_cont, fw_ite, Nat.reduceAdd, Nat.reduceLeDiff, true_and, and_true, and_self, cRg1_ap, rg1K_f, rg1K_t, cRg2_ap, rg2K_ap, rg2K2_f, rg2K2_t, bind_ok, bind_no, bind_exc, bind_ite, opt_some, opt_none, opt_ite, val_okv, val_oko, val_no, val_exc, val_ite, opn_eq, flow_ok, flow_no, flow_exc, flow_ite, seq_next, seq_ret, seq_brk, seq_cont, seq_exc, seq_no, seq_ite, turn_next, turn_ret, turn_brk, turn_cont, turn_exc, turn_ite, done_next, done_ret, done_exc, done_ite, mask_nil, mask_t, mask_f, orNo_some, orNo_none, getS_z, getS_s, cVar_ap, rdV_val, rdV_own, cMov_ap, rdM_val, rdM_own, dat_val, dat_own, datV_eq, datS_val, datS_own, datR_eq, datSR_val, datSR_own, datSR_rd, cCon_ap, cVal_ap, cValK_ap, c1_ap, c1K_ap, c2_ap, c2K_ap, gO_some, c1V_ap, c2V_ap, c2V0_some, c2VK_ap, c2W_ap, c2WK_ap, bl_some, cBin_eq, cNeg_eq, cNot_eq, cCmp_eq, cIsN_eq, cSub_eq, cSubV_eq, cRev_eq, cRevV_eq, cInV_eq, cIsi_eq, cIsiV_eq, cBiV_ap, cChn_ap, chnKx_ap, chnKy_ap, chnK1_ap, chnK2_ap, cAnd_ap, andK_ap, andK2_ap, cOr_ap, orK_val, orK_own, orK2_ap, cIte_ap, iteK_ap, consK_ap, appK_ap, evs_nil, evs_cons, evsK_ap, evI_nil, evI_one, evIK_ap, evIA_ap, evI_star, evIS_ap, seqO_some, evI_starV, seqD_l, seqD_t, cLst_ap, lstK_ap, cTup_ap, tupK_ap, evO_none, someK_ap, evO_some, evOK_ap, intO_i, cSl_ap, slK1_ap, slK2_ap, slK3_ap, cSlV_ap, slV0_some, slVK1_ap, slVK2_ap, cBi_ap, biK_ap, evA_nil, evA_ref, evA0_some, evA_val, evAK_ap, cCall_ap, callK_ap, callK2_ap, back_ret, back_exc, putBack_nil, putBack_ref, putBack_val, atCall_nil, atCall_ref, consO_some, atC0_some, atCall_val, cCallK_ap, callKK_ap, callKK2_ap, perm_nil, tVal_ap, tvK_ap, tAnd_ap, tAndK_ap, tOr_ap, tOrK_ap, tNot_ap, tNotK_ap, iIt_ap, itK_ap, items_l, items_t, iRng1_ap, r1K_ap, iRng2_ap, r2K1_ap, r2K_ap, iZip_ap, zipK1_ap, zipK_ap, zipD_l, zipD_t, iEnm_ap, enmK_ap, enmD_l, enmD_t, sSeq_ap, keep_tv, keep_to, keep_fv, keep_fo, setF_some, sAsg_ap, asgK_ap, nxF_some, sAsgT_ap, asgTK_ap, bindT_nm, bindT_tt, bindT_tl, bindTs_nil, bndK_some, bindTs_cons, evSs_nil, evSs_cons, evSsK_ap, sPar_ap, parK_ap, setPar_nil, parO_some, setPar_cons, sSetIx_ap, sixK_ap, sixK2_some, sixK3_ap, setDN_some, setD_own, sApp_ap, appK0_own, appK2_ap, appD_own, setF_ite, sExp_ap, expK_ap, sIf_ap, ifK_ap, sFor_ap, forK_ap, sWhile_ap, ftK_some, forTurn_ap, retF_some, sRet_ap, retK_ap, sRetN_ap, sBrk_ap, sCont_ap, sPass_ap, cLc_ap, b_add, b_sub, b_mul, b_fdiv, b_mod, b_pow, b_addL, b_addT, b_mulL, b_mulT, n_neg, q_lt, q_le, q_gt, q_ge, q_eq, q_ne, q_eqb, q_neb, c_lt, c_le, c_gt, c_ge, c_eq, t_b, t_i, t_l, t_t, t_n, g_not, i_n, i_b, i_i, i_s, i_l, i_t, g_isn, g_isnn, gi_n, gi_b, gi_i, gi_s, gi_l, gi_t, f_max, f_min, f_abs, f_int, f_intb, f_lenl, f_lent, f_listl, f_listt, f_tupl, f_tupt, f_sum, f_all, f_any, f_sort, f_sortT, g_atl, g_att, s_l, s_t, r_l, List.set_cons_zero, List.set_cons_succ, List.map_cons, List.map_nil, List.nil_append, List.cons_append, Option.map_some, Option.map_none, decide_eq_true_eq, Bool.not_eq_true', decide_eq_false_iff_not, Bool.false_eq_true, if_true, if_false, ite_self, if_false, rep_z, rep_s, lenOk, List.length_cons, List.length_nil]
theorem right_ok (n : Nat) (hand : call P (n + 10) 11 [] = .ret (.val (.bool true)) []) {bx : List D} (h : Box 0 bx) : ∃ bx', call P (n + 11) 13 [.own bx] = .ret (.val (.bool true)) [some bx'] := by
  obtain ⟨tt, e', h1, ht, bx', rfl, hb'⟩ := lcK_all (f := lcTurn ⟨call P (n + 10), P.fuel⟩ (.nm 1) none (cCall 12 [.ref 0]) [1]) (vs := [1]) (xs := rngL 0 6) (e := [some (.own bx), none])
    (fun i e => ∃ bx : List D, e = [some (.own bx), none] ∧ Box (1000 * i) bx) rfl (by decide) ⟨bx, rfl, by simpa using h⟩ (by
      rintro i x e hx ⟨bx1, rfl, hb⟩
      have hi := (rng_get hx).2
      obtain ⟨bx2, hc, hb2⟩ := case_ok n (by omega) hb
      exact ⟨_, by simp only [hc, cLenI_ap, lenIK_l, lenIK_t, cSs_eq, cPop_ap, popK0_own, popF_some, popK_ap, sExt_ap, extK0_own, extK2_ap, extD_own, gFld_snap, cFld_eq, cPrp_ap, prpK_ap, noX_ok, cMb_ap, mbK_ap, mbK1_ap, mbK2_ap, rc_ixl, rc_spl, rc_joi, cFst_ap, fK0_ap, evF_nil, evF_cons, fK1_ap, fK2_ap, newK_ret, f_sumt, List.isEmpty_nil, List.isEmpty_cons, not_true_eq_false, not_false_eq_true, r_t, perm_cons, permC_some, List.getElem?_cons_zero, List.getElem?_cons_succ, at_0, at_1, at_2, at_3, at_4, at_last, List.length_map, reduceCtorEq, lcTurn_ap, lcK3_ap, lcK2_ap, lcE_some, evC_none, evC_some, wipe_nil, wipe_cons, rest_nil, rest_cons, fw_next, fw_ret, fw_brk, fw_cont, fw_ite, Nat.reduceAdd, Nat.reduceLeDiff, true_and, and_true, and_self, cRg1_ap, rg1K_f, rg1K_t, cRg2_ap, rg2K_ap, rg2K2_f, rg2K2_t, bind_ok, bind_no, bind_exc, bind_ite, opt_some, opt_none, opt_ite, val_okv, val_oko, val_no, val_exc, val_ite, opn_eq, flow_ok, flow_no, flow_exc, flow_ite, seq_next, seq_ret, seq_brk, seq_cont, seq_exc, seq_no, seq_ite, turn_next, turn_ret, turn_brk, turn_cont, turn_exc, turn_ite, done_next, done_ret, done_exc, done_ite, mask_nil, mask_t, mask_f, orNo_some, orNo_none, getS_z, getS_s, cVar_ap, rdV_val, rdV_own, cMov_ap, rdM_val, rdM_own, dat_val, dat_own, datV_eq, datS_val, datS_own, datR_eq, datSR_val, datSR_own, datSR_rd, cCon_ap, cVal_ap, cValK_ap, c1_ap, c1K_ap, c2_ap, c2K_ap, gO_some, c1V_ap, c2V_ap, c2V0_some, c2VK_ap, c2W_ap, c2WK_ap, bl_some, cBin_eq, cNeg_eq, cNot_eq, cCmp_eq, cIsN_eq, cSub_eq, cSubV_eq, cRev_eq, cRevV_eq, cInV_eq, cIsi_eq, cIsiV_eq, cBiV_ap, cChn_ap, chnKx_ap, chnKy_ap, chnK1_ap, chnK2_ap, cAnd_ap, andK_ap, andK2_ap, cOr_ap, orK_val, orK_own, orK2_ap, cIte_ap, iteK_ap, consK_ap, appK_ap, evs_nil, evs_cons, evsK_ap, evI_nil, evI_one, evIK_ap, evIA_ap, evI_star, evIS_ap, seqO_some, evI_starV, seqD_l, seqD_t, cLst_ap, lstK_ap, cTup_ap, tupK_ap, evO_none, someK_ap, evO_some, evOK_ap, intO_i, cSl_ap, slK1_ap, slK2_ap, slK3_ap, cSlV_ap, slV0_some, slVK1_ap, slVK2_ap, cBi_ap, biK_ap, evA_nil, evA_ref, evA0_some, evA_val, evAK_ap, cCall_ap, callK_ap, callK2_ap, back_ret, back_exc, putBack_nil, putBack_ref, putBack_val, atCall_nil, atCall_ref, consO_some, atC0_some, atCall_val, cCallK_ap, callKK_ap, callKK2_ap, perm_nil, tVal_ap, tvK_ap, tAnd_ap, tAndK_ap, tOr_ap, tOrK_ap, tNot_ap, tNotK_ap, iIt_ap, itK_ap, items_l, items_t, iRng1_ap, r1K_ap, iRng2_ap, r2K1_ap, r2K_ap, iZip_ap, zipK1_ap, zipK_ap, zipD_l, zipD_t, iEnm_ap, enmK_ap, enmD_l, enmD_t, sSeq_ap, keep_tv, keep_to, keep_fv, keep_fo, setF_some, sAsg_ap, asgK_ap, nxF_some, sAsgT_ap, asgTK_ap, bindT_nm, bindT_tt, bindT_tl, bindTs_nil, bndK_some, bindTs_cons, evSs_nil, evSs_cons, evSsK_ap, sPar_ap, parK_ap, setPar_nil, parO_some, setPar_cons, sSetIx_ap, sixK_ap, sixK2_some, sixK3_ap, setDN_some, setD_own, sApp_ap, appK0_own, appK2_ap, appD_own, setF_ite, sExp_ap, expK_ap, sIf_ap, ifK_ap, sFor_ap, forK_ap, sWhile_ap, ftK_some, forTurn_ap, retF_some, sRet_ap, retK_ap, sRetN_ap, sBrk_ap, sCont_ap, sPass_ap, cLc_ap, b_add, b_sub, b_mul, b_fdiv, b_mod, b_pow, b_addL, b_addT, b_mulL, b_mulT, n_neg, q_lt, q_le, q_gt, q_ge, q_eq, q_ne, q_eqb, q_neb, c_lt, c_le, c_gt, c_ge, c_eq, t_b, t_i, t_l, t_t, t_n, g_not, i_n, i_b, i_i, i_s, i_l, i_t, g_isn, g_isnn, gi_n, gi_b, gi_i, gi_s, gi_l, gi_t, f_max, f_min, f_abs, f_int, f_intb, f_lenl, f_lent, f_listl, f_listt, f_tupl, f_tupt, f_sum, f_all, f_any, f_sort, f_sortT, g_atl, g_att, s_l, s_t, r_l, List.set_cons_zero, List.set_cons_succ, List.map_cons, List.map_nil, List.nil_append, List.cons_append, Option.map_some, Option.map_none, decide_eq_true_eq, Bool.not_eq_true', decide_eq_false_iff_not, Bool.false_eq_true, if_true, if_false, ite_self, if_false, rep_z, rep_s, lenOk, List.length_cons, List.length_nil], bx2, rfl, hb2.mono (by omega)⟩)
  have h1' : lcK (lcTurn ⟨call P (n + 10), P.fuel⟩ (.nm 1) none (cCall 12 [.ref 0]) [1]) [1] (rngL 0 6) [some (.own bx), none] = .ok (.own tt) [some (.own bx'), none] := h1
  have nt : (6 : Int).toNat = 6 := rfl
  refine ⟨.own bx', ?_⟩
  rw [call_eq m__law_right rfl rfl]
  simp only [m__law_right, hand, rng_ok (show -(2 ^ 62) ≤ (6 : Int) by omega) (show (6 : Int) < 2 ^ 62 by omega), nt, h1', ht, cLenI_ap, lenIK_l, lenIK_t, cSs_eq, cPop_ap, popK0_own, popF_some, popK_ap, sExt_ap, extK0_own, extK2_ap, extD_own, gFld_snap, cFld_eq, cPrp_ap, prpK_ap, noX_ok, cMb_ap, mbK_ap, mbK1_ap, mbK2_ap, rc_ixl, rc_spl, rc_joi, cFst_ap, fK0_ap, evF_nil, evF_cons, fK1_ap, fK2_ap, newK_ret, f_sumt, List.isEmpty_nil, List.isEmpty_cons, not_true_eq_false, not_false_eq_true, r_t, perm_cons, permC_some, List.getElem?_cons_zero, List.getElem?_cons_succ, at_0, at_1, at_2, at_3, at_4, at_last, List.length_map, reduceCtorEq, lcTurn_ap, lcK3_ap, lcK2_ap, lcE_some, evC_none, evC_some, wipe_nil, wipe_cons, rest_nil, rest_cons, fw_next, fw_ret, fw_brk, fw_cont, fw_ite, Nat.reduceAdd, Nat.reduceLeDiff, true_and, and_true, and_self, cRg1_ap, rg1K_f, rg1K_t, cRg2_ap, rg2K_ap, rg2K2_f, rg2K2_t, bind_ok, bind_no, bind_exc, bind_ite, opt_some, opt_none, opt_ite, val_okv, val_oko, val_no, val_exc, val_ite, opn_eq, flow_ok, flow_no, flow_exc, flow_ite, seq_next, seq_ret, seq_brk, seq_cont, seq_exc, seq_no, seq_ite, turn_next, turn_ret, turn_brk, turn_cont, turn_exc, turn_ite, done_next, done_ret, done_exc, done_ite, mask_nil, mask_t, mask_f, orNo_some, orNo_none, getS_z, getS_s, cVar_ap, rdV_val, rdV_own, cMov_ap, rdM_val, rdM_own, dat_val, dat_own, datV_eq, datS_val, datS_own, datR_eq, datSR_val, datSR_own, datSR_rd, cCon_ap, cVal_ap, cValK_ap, c1_ap, c1K_ap, c2_ap, c2K_ap, gO_some, c1V_ap, c2V_ap, c2V0_some, c2VK_ap, c2W_ap, c2WK_ap, bl_some, cBin_eq, cNeg_eq, cNot_eq, cCmp_eq, cIsN_eq, cSub_eq, cSubV_eq, cRev_eq, cRevV_eq, cInV_eq, cIsi_eq, cIsiV_eq, cBiV_ap, cChn_ap, chnKx_ap, chnKy_ap, chnK1_ap, chnK2_ap, cAnd_ap, andK_ap, andK2_ap, cOr_ap, orK_val, orK_own, orK2_ap, cIte_ap, iteK_ap, consK_ap, appK_ap, evs_nil, evs_cons, evsK_ap, evI_nil, evI_one, evIK_ap, evIA_ap, evI_star, evIS_ap, seqO_some, evI_starV, seqD_l, seqD_t, cLst_ap, lstK_ap, cTup_ap, tupK_ap, evO_none, someK_ap, evO_some, evOK_ap, intO_i, cSl_ap, slK1_ap, slK2_ap, slK3_ap, cSlV_ap, slV0_some, slVK1_ap, slVK2_ap, cBi_ap, biK_ap, evA_nil, evA_ref, evA0_some, evA_val, evAK_ap, cCall_ap, callK_ap, callK2_ap, back_ret, back_exc, putBack_nil, putBack_ref, putBack_val, atCall_nil, atCall_ref, consO_some, atC0_some, atCall_val, cCallK_ap, callKK_ap, callKK2_ap, perm_nil, tVal_ap, tvK_ap, tAnd_ap, tAndK_ap, tOr_ap, tOrK_ap, tNot_ap, tNotK_ap, iIt_ap, itK_ap, items_l, items_t, iRng1_ap, r1K_ap, iRng2_ap, r2K1_ap, r2K_ap, iZip_ap, zipK1_ap, zipK_ap, zipD_l, zipD_t, iEnm_ap, enmK_ap, enmD_l, enmD_t, sSeq_ap, keep_tv, keep_to, keep_fv, keep_fo, setF_some, sAsg_ap, asgK_ap, nxF_some, sAsgT_ap, asgTK_ap, bindT_nm, bindT_tt, bindT_tl, bindTs_nil, bndK_some, bindTs_cons, evSs_nil, evSs_cons, evSsK_ap, sPar_ap, parK_ap, setPar_nil, parO_some, setPar_cons, sSetIx_ap, sixK_ap, sixK2_some, sixK3_ap, setDN_some, setD_own, sApp_ap, appK0_own, appK2_ap, appD_own, setF_ite, sExp_ap, expK_ap, sIf_ap, ifK_ap, sFor_ap, forK_ap, sWhile_ap, ftK_some, forTurn_ap, retF_some, sRet_ap, retK_ap, sRetN_ap, sBrk_ap, sCont_ap, sPass_ap, cLc_ap, b_add, b_sub, b_mul, b_fdiv, b_mod, b_pow, b_addL, b_addT, b_mulL, b_mulT, n_neg, q_lt, q_le, q_gt, q_ge, q_eq, q_ne, q_eqb, q_neb, c_lt, c_le, c_gt, c_ge, c_eq, t_b, t_i, t_l, t_t, t_n, g_not, i_n, i_b, i_i, i_s, i_l, i_t, g_isn, g_isnn, gi_n, gi_b, gi_i, gi_s, gi_l, gi_t, f_max, f_min, f_abs, f_int, f_intb, f_lenl, f_lent, f_listl, f_listt, f_tupl, f_tupt, f_sum, f_all, f_any, f_sort, f_sortT, g_atl, g_att, s_l, s_t, r_l, List.set_cons_zero, List.set_cons_succ, List.map_cons, List.map_nil, List.nil_append, List.cons_append, Option.map_some, Option.map_none, decide_eq_true_eq, Bool.not_eq_true', decide_eq_false_iff_not, Bool.false_eq_true, if_true, if_false, ite_self, if_false, rep_z, rep_s, lenOk, List.length_cons, List.length_nil]
/-! the law: cells, then each box; what is given by hand stands in each -/
theorem law_of2 (n : Nat) (right : ∀ bx, Box 0 bx → ∃ bx', call P (n + 13) 13 [.own bx] = .ret (.val (.bool true)) [some bx']) (ns : List Int) (hn : ns.length ≤ 63) :
    ∃ ps, call P (n + 14) 14 [.rd (ns.map .int)] = .ret (.val (.bool true)) ps := by
  obtain ⟨l, hc, l1, l2⟩ := cells_ok (n + 12) ns hn 3 (by decide) (by decide)
  obtain ⟨s, ps, hc, rfl, rfl⟩ := hc.eq
  have hc' : call P (n + 13) 5 [.rd (ns.map .int), .val (.int 3)] = .ret (.own (l.map .int)) [some (.rd (ns.map .int)), none] := hc
  have lc : ∀ (a : Option Ev.Slot), lcK (lcTurn ⟨call P (n + 13), P.fuel⟩ (.nm 2) none (cCall 13 [.val (cCall 3 [.val (cVar 1), .val (cVar 2)])]) [2]) [2] (rngL 0 ((l.length : Int)).toNat) [a, some (.val (.list (l.map .int))), none] = .ok (.own ((List.replicate l.length true).map .bool)) [a, some (.val (.list (l.map .int))), none] := by
    intro a
    rw [lcK_pure (fun _ => some (.bool true)) rfl (by rw [rngL_len, lenOk]; omega) ?_ rfl]
    · rw [fm_true, rngL_len, Int.toNat_natCast]
    · intro x hx
      obtain ⟨k, hk⟩ := List.getElem?_of_mem hx
      obtain ⟨rfl, hk2⟩ := rng_get hk
      rw [Int.zero_add]
      obtain ⟨bx, hb, hB⟩ := box_ok (n + 12) l k (by omega) (by omega) _ (.inr rfl)
      obtain ⟨bx', hr⟩ := right bx hB
      simp only [hb, hr, cLenI_ap, lenIK_l, lenIK_t, cSs_eq, cPop_ap, popK0_own, popF_some, popK_ap, sExt_ap, extK0_own, extK2_ap, extD_own, gFld_snap, cFld_eq, cPrp_ap, prpK_ap, noX_ok, cMb_ap, mbK_ap, mbK1_ap, mbK2_ap, rc_ixl, rc_spl, rc_joi, cFst_ap, fK0_ap, evF_nil, evF_cons, fK1_ap, fK2_ap, newK_ret, f_sumt, List.isEmpty_nil, List.isEmpty_cons, not_true_eq_false, not_false_eq_true, r_t, perm_cons, permC_some, List.getElem?_cons_zero, List.getElem?_cons_succ, at_0, at_1, at_2, at_3, at_4, at_last, List.length_map, reduceCtorEq, lcTurn_ap, lcK3_ap, lcK2_ap, lcE_some, evC_none, evC_some, wipe_nil, wipe_cons, rest_nil, rest_cons, fw_next, fw_ret, fw_brk, fw_cont, fw_ite, Nat.reduceAdd, Nat.reduceLeDiff, true_and, and_true, and_self, cRg1_ap, rg1K_f, rg1K_t, cRg2_ap, rg2K_ap, rg2K2_f, rg2K2_t, bind_ok, bind_no, bind_exc, bind_ite, opt_some, opt_none, opt_ite, val_okv, val_oko, val_no, val_exc, val_ite, opn_eq, flow_ok, flow_no, flow_exc, flow_ite, seq_next, seq_ret, seq_brk, seq_cont, seq_exc, seq_no, seq_ite, turn_next, turn_ret, turn_brk, turn_cont, turn_exc, turn_ite, done_next, done_ret, done_exc, done_ite, mask_nil, mask_t, mask_f, orNo_some, orNo_none, getS_z, getS_s, cVar_ap, rdV_val, rdV_own, cMov_ap, rdM_val, rdM_own, dat_val, dat_own, datV_eq, datS_val, datS_own, datR_eq, datSR_val, datSR_own, datSR_rd, cCon_ap, cVal_ap, cValK_ap, c1_ap, c1K_ap, c2_ap, c2K_ap, gO_some, c1V_ap, c2V_ap, c2V0_some, c2VK_ap, c2W_ap, c2WK_ap, bl_some, cBin_eq, cNeg_eq, cNot_eq, cCmp_eq, cIsN_eq, cSub_eq, cSubV_eq, cRev_eq, cRevV_eq, cInV_eq, cIsi_eq, cIsiV_eq, cBiV_ap, cChn_ap, chnKx_ap, chnKy_ap, chnK1_ap, chnK2_ap, cAnd_ap, andK_ap, andK2_ap, cOr_ap, orK_val, orK_own, orK2_ap, cIte_ap, iteK_ap, consK_ap, appK_ap, evs_nil, evs_cons, evsK_ap, evI_nil, evI_one, evIK_ap, evIA_ap, evI_star, evIS_ap, seqO_some, evI_starV, seqD_l, seqD_t, cLst_ap, lstK_ap, cTup_ap, tupK_ap, evO_none, someK_ap, evO_some, evOK_ap, intO_i, cSl_ap, slK1_ap, slK2_ap, slK3_ap, cSlV_ap, slV0_some, slVK1_ap, slVK2_ap, cBi_ap, biK_ap, evA_nil, evA_ref, evA0_some, evA_val, evAK_ap, cCall_ap, callK_ap, callK2_ap, back_ret, back_exc, putBack_nil, putBack_ref, putBack_val, atCall_nil, atCall_ref, consO_some, atC0_some, atCall_val, cCallK_ap, callKK_ap, callKK2_ap, perm_nil, tVal_ap, tvK_ap, tAnd_ap, tAndK_ap, tOr_ap, tOrK_ap, tNot_ap, tNotK_ap, iIt_ap, itK_ap, items_l, items_t, iRng1_ap, r1K_ap, iRng2_ap, r2K1_ap, r2K_ap, iZip_ap, zipK1_ap, zipK_ap, zipD_l, zipD_t, iEnm_ap, enmK_ap, enmD_l, enmD_t, sSeq_ap, keep_tv, keep_to, keep_fv, keep_fo, setF_some, sAsg_ap, asgK_ap, nxF_some, sAsgT_ap, asgTK_ap, bindT_nm, bindT_tt, bindT_tl, bindTs_nil, bndK_some, bindTs_cons, evSs_nil, evSs_cons, evSsK_ap, sPar_ap, parK_ap, setPar_nil, parO_some, setPar_cons, sSetIx_ap, sixK_ap, sixK2_some, sixK3_ap, setDN_some, setD_own, sApp_ap, appK0_own, appK2_ap, appD_own, setF_ite, sExp_ap, expK_ap, sIf_ap, ifK_ap, sFor_ap, forK_ap, sWhile_ap, ftK_some, forTurn_ap, retF_some, sRet_ap, retK_ap, sRetN_ap, sBrk_ap, sCont_ap, sPass_ap, cLc_ap, b_add, b_sub, b_mul, b_fdiv, b_mod, b_pow, b_addL, b_addT, b_mulL, b_mulT, n_neg, q_lt, q_le, q_gt, q_ge, q_eq, q_ne, q_eqb, q_neb, c_lt, c_le, c_gt, c_ge, c_eq, t_b, t_i, t_l, t_t, t_n, g_not, i_n, i_b, i_i, i_s, i_l, i_t, g_isn, g_isnn, gi_n, gi_b, gi_i, gi_s, gi_l, gi_t, f_max, f_min, f_abs, f_int, f_intb, f_lenl, f_lent, f_listl, f_listt, f_tupl, f_tupt, f_sum, f_all, f_any, f_sort, f_sortT, g_atl, g_att, s_l, s_t, r_l, List.set_cons_zero, List.set_cons_succ, List.map_cons, List.map_nil, List.nil_append, List.cons_append, Option.map_some, Option.map_none, decide_eq_true_eq, Bool.not_eq_true', decide_eq_false_iff_not, Bool.false_eq_true, if_true, if_false, ite_self, if_false, rep_z, rep_s, lenOk, List.length_cons, List.length_nil]
  refine ⟨[some (.rd (ns.map .int))], ?_⟩
  rw [call_eq m_law rfl rfl]
  clear hc right
  generalize call P (n + 13) = g at *
  simp only [m_law, hc', lc, all_true, Bool.not_true, rng_ok (show -(2 ^ 62) ≤ (l.length : Int) by omega) (show (l.length : Int) < 2 ^ 62 by omega), cLenI_ap, lenIK_l, lenIK_t, cSs_eq, cPop_ap, popK0_own, popF_some, popK_ap, sExt_ap, extK0_own, extK2_ap, extD_own, gFld_snap, cFld_eq, cPrp_ap, prpK_ap, noX_ok, cMb_ap, mbK_ap, mbK1_ap, mbK2_ap, rc_ixl, rc_spl, rc_joi, cFst_ap, fK0_ap, evF_nil, evF_cons, fK1_ap, fK2_ap, newK_ret, f_sumt, List.isEmpty_nil, List.isEmpty_cons, not_true_eq_false, not_false_eq_true, r_t, perm_cons, permC_some, List.getElem?_cons_zero, List.getElem?_cons_succ, at_0, at_1, at_2, at_3, at_4, at_last, List.length_map, reduceCtorEq, lcTurn_ap, lcK3_ap, lcK2_ap, lcE_some, evC_none, evC_some, wipe_nil, wipe_cons, rest_nil, rest_cons, fw_next, fw_ret, fw_brk, fw_cont, fw_ite, Nat.reduceAdd, Nat.reduceLeDiff, true_and, and_true, and_self, cRg1_ap, rg1K_f, rg1K_t, cRg2_ap, rg2K_ap, rg2K2_f, rg2K2_t, bind_ok, bind_no, bind_exc, bind_ite, opt_some, opt_none, opt_ite, val_okv, val_oko, val_no, val_exc, val_ite, opn_eq, flow_ok, flow_no, flow_exc, flow_ite, seq_next, seq_ret, seq_brk, seq_cont, seq_exc, seq_no, seq_ite, turn_next, turn_ret, turn_brk, turn_cont, turn_exc, turn_ite, done_next, done_ret, done_exc, done_ite, mask_nil, mask_t, mask_f, orNo_some, orNo_none, getS_z, getS_s, cVar_ap, rdV_val, rdV_own, cMov_ap, rdM_val, rdM_own, dat_val, dat_own, datV_eq, datS_val, datS_own, datR_eq, datSR_val, datSR_own, datSR_rd, cCon_ap, cVal_ap, cValK_ap, c1_ap, c1K_ap, c2_ap, c2K_ap, gO_some, c1V_ap, c2V_ap, c2V0_some, c2VK_ap, c2W_ap, c2WK_ap, bl_some, cBin_eq, cNeg_eq, cNot_eq, cCmp_eq, cIsN_eq, cSub_eq, cSubV_eq, cRev_eq, cRevV_eq, cInV_eq, cIsi_eq, cIsiV_eq, cBiV_ap, cChn_ap, chnKx_ap, chnKy_ap, chnK1_ap, chnK2_ap, cAnd_ap, andK_ap, andK2_ap, cOr_ap, orK_val, orK_own, orK2_ap, cIte_ap, iteK_ap, consK_ap, appK_ap, evs_nil, evs_cons, evsK_ap, evI_nil, evI_one, evIK_ap, evIA_ap, evI_star, evIS_ap, seqO_some, evI_starV, seqD_l, seqD_t, cLst_ap, lstK_ap, cTup_ap, tupK_ap, evO_none, someK_ap, evO_some, evOK_ap, intO_i, cSl_ap, slK1_ap, slK2_ap, slK3_ap, cSlV_ap, slV0_some, slVK1_ap, slVK2_ap, cBi_ap, biK_ap, evA_nil, evA_ref, evA0_some, evA_val, evAK_ap, cCall_ap, callK_ap, callK2_ap, back_ret, back_exc, putBack_nil, putBack_ref, putBack_val, atCall_nil, atCall_ref, consO_some, atC0_some, atCall_val, cCallK_ap, callKK_ap, callKK2_ap, perm_nil, tVal_ap, tvK_ap, tAnd_ap, tAndK_ap, tOr_ap, tOrK_ap, tNot_ap, tNotK_ap, iIt_ap, itK_ap, items_l, items_t, iRng1_ap, r1K_ap, iRng2_ap, r2K1_ap, r2K_ap, iZip_ap, zipK1_ap, zipK_ap, zipD_l, zipD_t, iEnm_ap, enmK_ap, enmD_l, enmD_t, sSeq_ap, keep_tv, keep_to, keep_fv, keep_fo, setF_some, sAsg_ap, asgK_ap, nxF_some, sAsgT_ap, asgTK_ap, bindT_nm, bindT_tt, bindT_tl, bindTs_nil, bndK_some, bindTs_cons, evSs_nil, evSs_cons, evSsK_ap, sPar_ap, parK_ap, setPar_nil, parO_some, setPar_cons, sSetIx_ap, sixK_ap, sixK2_some, sixK3_ap, setDN_some, setD_own, sApp_ap, appK0_own, appK2_ap, appD_own, setF_ite, sExp_ap, expK_ap, sIf_ap, ifK_ap, sFor_ap, forK_ap, sWhile_ap, ftK_some, forTurn_ap, retF_some, sRet_ap, retK_ap, sRetN_ap, sBrk_ap, sCont_ap, sPass_ap, cLc_ap, b_add, b_sub, b_mul, b_fdiv, b_mod, b_pow, b_addL, b_addT, b_mulL, b_mulT, n_neg, q_lt, q_le, q_gt, q_ge, q_eq, q_ne, q_eqb, q_neb, c_lt, c_le, c_gt, c_ge, c_eq, t_b, t_i, t_l, t_t, t_n, g_not, i_n, i_b, i_i, i_s, i_l, i_t, g_isn, g_isnn, gi_n, gi_b, gi_i, gi_s, gi_l, gi_t, f_max, f_min, f_abs, f_int, f_intb, f_lenl, f_lent, f_listl, f_listt, f_tupl, f_tupt, f_sum, f_all, f_any, f_sort, f_sortT, g_atl, g_att, s_l, s_t, r_l, List.set_cons_zero, List.set_cons_succ, List.map_cons, List.map_nil, List.nil_append, List.cons_append, Option.map_some, Option.map_none, decide_eq_true_eq, Bool.not_eq_true', decide_eq_false_iff_not, Bool.false_eq_true, if_true, if_false, ite_self, if_false, rep_z, rep_s, lenOk, List.length_cons, List.length_nil]
set_option maxHeartbeats 0 in
theorem hand_ok : isT1 (call P 26 11 []) = true := by decide +kernel
theorem law_run : ∀ ns : List Int, ns.length ≤ 63 → ∃ ps, call P 28 14 [.rd (ns.map .int)] = .ret (.val (.bool true)) ps :=
  law_of2 14 fun bx h => by
    obtain ⟨bx', h⟩ := right_ok 16 (isT1_eq hand_ok) h
    exact ⟨_, h⟩

end K03
end
open PySem PySem.W PySem.Calls PyProof.Rows
set_option maxRecDepth 100000 in
set_option maxHeartbeats 0 in
theorem PySem.Challenge.cw_allbutts_k03_wrong_texts_of_runs_holds : PySem.Challenge.rw_allbutts_k03_wrong_texts_of_runs.Holds := by
  w_on; o_law
  refine HandSHeadRun.head_any (r := OpenLaw.row PySem.Challenge.rw_allbutts_k03_wrong_texts_of_runs) (q := view (OpenLaw.row PySem.Challenge.rw_allbutts_k03_wrong_texts_of_runs).prog [23]) (H := K03.hk) (ob := K03.ob) (M := 6000) (loose := (["ButtError", "BadText", "DIGITS", "number_in", "BLANK", "SIGNS", "run_in", "runs_from", "_law_box", "_law_take", "_law_cells", "_law_of", "_law_same", "_law_row", "_law_row_words", "_law_heard"] : List PySem.Str) ++ (["_law_by_hand_right", "_law_case_right", "_law_right"] : List PySem.Str)) (d := HandSHeadRun.topDef (OpenLaw.row PySem.Challenge.rw_allbutts_k03_wrong_texts_of_runs).prog 23) (kwd := []) K03.ob_eq
    (by kernel_rfl) (fun s => by kernel_rfl) K03.run (by kernel_rfl) (by kernel_rfl) (by kernel_rfl) (by rfl) (by first | assumption | decide +kernel) (by decide +kernel) ⟨rfl, rfl, rfl, rfl, rfl, by decide +kernel⟩ ?hw ?hc
  case hw => w_witness2
  case hc =>
    refine Ev.walk_ofEW (l := PySem.Challenge.rw_allbutts_k03_wrong_texts_of_runs) (n := 63) (k := 58) (x := "_law_script") (CX := fun w => L2.CX (PySem.Challenge.rw_allbutts_k03_wrong_texts_of_runs).prog w) rfl (by decide) (by kernel_rfl) ⟨rfl, by decide, by decide⟩ ?F (fun _ _ _ _ _ z => Ev.cx_no z)
    intro w mg fa h Y G hmg0
    obtain ⟨K, KX, c⟩ := Y
    have hmg : mg ("law" : PySem.Str) = some (.ref fa) := by
      have e : (HandSHeadRun.topDef (OpenLaw.row PySem.Challenge.rw_allbutts_k03_wrong_texts_of_runs).prog 23).name = ("law" : PySem.Str) := by kernel_rfl
      rw [← e]
      exact hmg0
    exact Ev.law_factsX (t := K03.t) (Pg := K03.P) (d := K03.d_law) (n := 28) KX G hmg c K03.bnd (by decide +kernel) K03.own K03.tab (List.mem_of_getElem? (i := 14) rfl) rfl rfl K03.law_run
