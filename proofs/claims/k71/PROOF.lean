import PyProof.Rows.All
import Wide.All
import OpenK.AllK
import Wide.FinOn
import HandS.ForMost
import HandS.ForExc
import HandS.Deep
import HandS.Wide
import HandS.TupAny
import HandS.SortInts
import HandS.SetFor
import HandS.Zip
import HandS.Small
import HandS.TupLe
import HandS.Style
import HandS.Flow
import HandS.Rev
import HandS.Codes
import HandS.HeadHook2
import HandS.IsInst
import HandS.ExcInit
import HandS.TryMany
import HandS.TupSets
import KE.KDictKeyed
import HandS.EndBits
import HandS.HeadEnd
import HandS.Head0
import HandS.Head1
import HandS.Head2
import HandS.HeadHook1
import PySem.Challenge.RW_pressluck_k71_round_by_round
set_option Elab.async false
set_option linter.all false
set_option autoImplicit false
/-! The data of the mini-interpreter: values, cells, what operations give. -/
namespace VI
open PySem

abbrev NK := NestedKey

/-- what stands in a slot: nothing, pure data, the one holder of a list or a dict that may still be changed, of an object -/
inductive SV where
  | unb
  | d (x : PyData)
  | lst (ds : List PyData)
  | dic (kvs : List (NK × PyData))
  | obj (c : Str) (fs : List (Str × SV))
  deriving Inhabited
/-- what an expression gives: pure data, or what stands in a slot -/
inductive EV where
  | d (x : PyData)
  | own (i : Nat)
  deriving Inhabited

abbrev Env := List SV

/-- an exception: the class's name, what its one own field holds -/
structure Exc where
  cls : Str
  arg : Option PyData

inductive Out (α : Type) where
  | stuck
  | ok (a : α) (e : Env)
  | exc (x : Exc) (e : Env)

def Out.bind {α β : Type} (m : Out α) (f : α → Env → Out β) : Out β := match m with
  | .stuck => .stuck
  | .ok a o => f a o
  | .exc x o => .exc x o
def ofO {α : Type} (a : Option α) (o : Env) : Out α := match a with
  | some a => .ok a o
  | none => .stuck
@[simp] theorem bind_ok {α β : Type} (a : α) (o : Env) (f : α → Env → Out β) : (Out.ok a o).bind f = f a o := rfl
@[simp] theorem bind_stuck {α β : Type} (f : α → Env → Out β) : (Out.stuck : Out α).bind f = .stuck := rfl
@[simp] theorem bind_exc {α β : Type} (x : Exc) (o : Env) (f : α → Env → Out β) : (Out.exc x o : Out α).bind f = .exc x o := rfl
@[simp] theorem ofO_some {α : Type} (a : α) (o : Env) : ofO (some a) o = .ok a o := rfl
@[simp] theorem ofO_none {α : Type} (o : Env) : ofO (none : Option α) o = .stuck := rfl

/-! ### keys -/
mutual
def keyOf : PyData → Option NK
  | .none => some .none
  | .int i => some (.num i)
  | .str x => some (.text x)
  | .tuple xs => (keysOf xs).map .tup
  | _ => none
def keysOf : List PyData → Option (List NK)
  | [] => some []
  | x :: xs => match keyOf x, keysOf xs with
    | some k, some ks => some (k :: ks)
    | _, _ => none
end
def dLook (kvs : List (NK × PyData)) (k : NK) : Option PyData := (kvs.find? fun p => decide (p.1 = k)).map (·.2)
def dPut (kvs : List (NK × PyData)) (k : NK) (v : PyData) : List (NK × PyData) :=
  if (kvs.any fun p => decide (p.1 = k)) = true then kvs.map (fun p => if p.1 = k then (p.1, v) else p) else kvs ++ [(k, v)]
def isTupK : NK → Bool
  | .tup _ => true
  | _ => false
def okKey : NK → Bool
  | .tup ks => decide ((NestedKey.tup ks).depth ≤ 8)
  | _ => false
/-- all keys of one make: tuples, or numbers and texts -/
def kindOk (kvs : List (NK × PyData)) (k : NK) : Bool := match k with
  | .none => false
  | .tup ks => okKey (.tup ks) && kvs.all fun p => isTupK p.1
  | _ => kvs.all fun p => !isTupK p.1
/-- x as a key of a dict -/
def dKey (kvs : List (NK × PyData)) (x : PyData) : Option NK := (keyOf x).bind fun k => if kindOk kvs k then some k else none
def dictOf (kvs : List (NK × PyData)) : PyData := .dict (kvs.map fun p => (p.1.data, p.2))
def undict : List (PyData × PyData) → Option (List (NK × PyData))
  | [] => some []
  | (k, v) :: r => match keyOf k, undict r with
    | some k, some r => some ((k, v) :: r)
    | _, _ => none

/-! ### views -/
def slotD : SV → Option PyData
  | .d x => some x
  | .lst ds => some (.list ds)
  | .dic kvs => some (dictOf kvs)
  | _ => none
/-- what a value is seen as -/
def view (o : Env) : EV → Option PyData
  | .d x => some x
  | .own i => (o[i]?).bind slotD
/-- a value as pure data from now on -/
def freeze (v : EV) (o : Env) : Out PyData := match v with
  | .d x => .ok x o
  | .own i => match (o[i]?).bind slotD with
    | some x => .ok x (o.set i (.d x))
    | none => .stuck

/-! ### operations on data -/
def most : Nat := 16000000
def isScalar : PyData → Bool
  | .none | .bool _ | .int _ | .str _ => true
  | _ => false
def small (n : Nat) : Bool := decide (n ≤ most)

inductive BOp where | add | sub | mul | fdiv | mod | pow
  deriving DecidableEq
inductive COp where | eq | ne | lt | le | gt | ge | isIn | notIn | is | isNot
  deriving DecidableEq
inductive Bi where | len | abs | int | str | sum | max | min | max2 | min2 | sorted | tuple | lenSet | sortedSet | isInt | isBool | isList | isStr | isTuple | all
  deriving DecidableEq
inductive Mt where | index | join | split | partition | count | upper
  deriving DecidableEq

def pow2ok (i j : Int) : Bool := decide (0 ≤ j) && decide (j ≤ 1000000) && decide (i.natAbs < 2 ^ 64)
def mulOk (i j : Int) : Bool := decide (i.natAbs.log2 + j.natAbs.log2 < 100000000)
def divOk (j : Int) : Bool := decide (0 < j) && decide (j.natAbs.log2 < 9000)

def addD : PyData → PyData → Option PyData
  | .int i, .int j => some (.int (i + j))
  | .str x, .str y => if small (x.length + y.length) then some (.str (x ++ y)) else none
  | .list x, .list y => if small (x.length + y.length) then some (.list (x ++ y)) else none
  | .tuple x, .tuple y => if small (x.length + y.length) then some (.tuple (x ++ y)) else none
  | _, _ => none
def subD : PyData → PyData → Option PyData
  | .int i, .int j => some (.int (i - j))
  | _, _ => none
def mulD : PyData → PyData → Option PyData
  | .int i, .int j => if mulOk i j then some (.int (i * j)) else none
  | .list xs, .int k => if small (xs.length * k.toNat) && decide (0 ≤ k) && decide (k ≤ 1000000) then some (.list (List.replicate k.toNat xs).flatten) else none
  | _, _ => none
def fdivD : PyData → PyData → Option PyData
  | .int i, .int j => if divOk j then some (.int (i / j)) else none
  | _, _ => none
def modD : PyData → PyData → Option PyData
  | .int i, .int j => if 0 < j then some (.int (i % j)) else none
  | _, _ => none
def powD : PyData → PyData → Option PyData
  | .int i, .int j => if pow2ok i j then some (.int (i ^ j.toNat)) else none
  | _, _ => none
def binD : BOp → PyData → PyData → Option PyData
  | .add => addD
  | .sub => subD
  | .mul => mulD
  | .fdiv => fdivD
  | .mod => modD
  | .pow => powD

def truD : PyData → Option Bool
  | .none => some false
  | .bool b => some b
  | .int i => some (i != 0)
  | .str x => if small x.length then some ((x.length : Int) != 0) else none
  | .list xs => some (!xs.isEmpty)
  | .tuple xs => some (!xs.isEmpty)
  | _ => none
def negD : PyData → Option PyData
  | .int i => some (.int (-i))
  | _ => none

def eqD (x y : PyData) : Option Bool := if SeqAt.shaped x && SeqAt.shaped y then some (PyData.eqv x y) else none
def isD : PyData → PyData → Option Bool
  | .bool a, .bool b => some (decide (a = b))
  | .none, .none => some true
  | .bool _, .none => some false
  | .int _, .none => some false
  | .str _, .none => some false
  | .list _, .none => some false
  | .tuple _, .none => some false
  | _, _ => none
def inD (x y : PyData) : Option Bool := match y with
  | .list ds => if SeqAt.shaped x && SeqAt.shaped (.list ds) then some (ds.any fun z => PyData.eqv z x) else none
  | .tuple ds => if SeqAt.shaped x && SeqAt.shaped (.tuple ds) then some (ds.any fun z => PyData.eqv z x) else none
  | .str z => match x with
    | .str w => if w.length = 1 then some (decide (w.cps.getD 0 0 ∈ z.cps.toList)) else none
    | _ => none
  | .dict kvs => (undict kvs).bind fun kvs => (dKey kvs x).map fun k => (dLook kvs k).isSome
  | _ => none
def intC (p : Int → Int → Bool) : PyData → PyData → Option Bool
  | .int i, .int j => some (p i j)
  | _, _ => none
def cmpD : COp → PyData → PyData → Option Bool
  | .eq, x, y => eqD x y
  | .ne, x, y => (eqD x y).map (!·)
  | .lt, x, y => intC (fun i j => decide (i < j)) x y
  | .le, x, y => intC (fun i j => decide (i ≤ j)) x y
  | .gt, x, y => intC (fun i j => decide (j < i)) x y
  | .ge, x, y => intC (fun i j => decide (j ≤ i)) x y
  | .is, x, y => isD x y
  | .isNot, x, y => (isD x y).map (!·)
  | .isIn, x, y => inD x y
  | .notIn, x, y => (inD x y).map (!·)

def intsOf : List PyData → Option (List Int)
  | [] => some []
  | .int i :: r => match intsOf r with
    | some is => some (i :: is)
    | none => none
  | _ :: _ => none
def strsOf : List PyData → Option (List Str)
  | [] => some []
  | .str i :: r => match strsOf r with
    | some is => some (i :: is)
    | none => none
  | _ :: _ => none
def boolsOf : List PyData → Option (List Bool)
  | [] => some []
  | .bool i :: r => match boolsOf r with
    | some is => some (i :: is)
    | none => none
  | _ :: _ => none
def maxL : List Int → Option Int
  | [] => none
  | x :: xs => some (xs.foldl max x)
def minL : List Int → Option Int
  | [] => none
  | x :: xs => some (xs.foldl min x)
/-- the unlike numbers, as they are met first -/
def unlike (ns : List Int) : List Int := ns.foldl (fun acc n => if n ∈ acc then acc else acc ++ [n]) []
def sortI (ns : List Int) : List Int := ns.mergeSort (fun a b => decide (a ≤ b))
def numKeys : List (NK × PyData) → Option (List Int)
  | [] => some []
  | (.num i, _) :: r => match numKeys r with
    | some is => some (i :: is)
    | none => none
  | _ :: _ => none
def asList : PyData → Option (List PyData)
  | .list xs => some xs
  | .tuple xs => some xs
  | _ => none
def intsIn (x : PyData) : Option (List Int) := match x with
  | .list xs => intsOf xs
  | _ => none

/-- built-in functions of values as they are seen -/
def lenB : PyData → Option PyData
  | .list xs => some (.int xs.length)
  | .tuple xs => some (.int xs.length)
  | .str x => if small x.length then some (.int x.length) else none
  | .dict kvs => (undict kvs).map fun ks => .int ks.length
  | _ => none
def absB : PyData → Option PyData
  | .int i => some (.int (if i < 0 then -i else i))
  | _ => none
def intB : PyData → Option PyData
  | .int i => some (.int i)
  | .bool b => some (.int (if b then 1 else 0))
  | .str x => if x.length ≤ 640 then (PySem.intText? x).map .int else none
  | _ => none
def strB : PyData → Option PyData
  | .int i => if i.natAbs.log2 < 1920 then some (.str (toString i)) else none
  | _ => none
def sumB (x : PyData) : Option PyData := (intsIn x).map fun ns => .int ns.sum
def maxB (x : PyData) : Option PyData := ((intsIn x).bind maxL).map .int
def minB (x : PyData) : Option PyData := ((intsIn x).bind minL).map .int
def max2B : PyData → PyData → Option PyData
  | .int i, .int j => some (.int (if j > i then j else i))
  | _, _ => none
def min2B : PyData → PyData → Option PyData
  | .int i, .int j => some (.int (if j < i then j else i))
  | _, _ => none
/-- tuples of numbers -/
def tupsOf : List PyData → Option (List (List Int))
  | [] => some []
  | .tuple ts :: r => match intsOf ts, tupsOf r with
    | some t, some ts => some (t :: ts)
    | _, _ => none
  | _ :: _ => none
def topOf (nss : List (List Int)) : Int := nss.flatten.foldl max 0 + 1
/-- tuples of numbers from 0 on, of one length -/
def tupsOk (nss : List (List Int)) : Bool := decide (nss.length < 64) && match nss with
  | [] => true
  | t :: _ => decide (1 ≤ t.length) && nss.all fun u => decide (u.length = t.length) && u.all fun i => decide (0 ≤ i)
def tupI (t : List Int) : PyData := .tuple (t.map .int)
def sortT (nss : List (List Int)) : List (List Int) := nss.mergeSort fun a b => decide (TS.code (topOf nss) a ≤ TS.code (topOf nss) b)
def sortedB : PyData → Option PyData
  | .list xs => match intsOf xs with
    | some ns => some (.list ((sortI ns).map .int))
    | none => (tupsOf xs).bind fun nss => if tupsOk nss then some (.list ((sortT nss).map tupI)) else none
  | .dict kvs => ((undict kvs).bind numKeys).map fun ns => .list ((sortI ns).map .int)
  | _ => none
def tupleB : PyData → Option PyData
  | .list xs => some (.tuple xs)
  | .tuple xs => some (.tuple xs)
  | _ => none
def lenSetB (x : PyData) : Option PyData := (intsIn x).bind fun ns => if ns.length < 4000 then some (.int (unlike ns).length) else none
def sortedSetB (x : PyData) : Option PyData := (intsIn x).bind fun ns => if ns.length < 64 then some (.list ((sortI (unlike ns)).map .int)) else none
inductive Ty where | none | bool | int | str | list | tuple | dict
  deriving DecidableEq
def tyD : PyData → Ty
  | .none => .none
  | .bool _ => .bool
  | .int _ => .int
  | .str _ => .str
  | .list _ => .list
  | .tuple _ => .tuple
  | .dict _ => .dict
def isB (ts : List Ty) (x : PyData) : Option PyData := if tyD x = .dict then none else some (.bool (decide (tyD x ∈ ts)))
def allB : PyData → Option PyData
  | .list xs => (boolsOf xs).map fun bs => .bool (bs.all id)
  | _ => none
def on1 (f : PyData → Option PyData) : List PyData → Option PyData
  | [x] => f x
  | _ => none
def on2 (f : PyData → PyData → Option PyData) : List PyData → Option PyData
  | [x, y] => f x y
  | _ => none
def biD : Bi → List PyData → Option PyData
  | .len => on1 lenB
  | .abs => on1 absB
  | .int => on1 intB
  | .str => on1 strB
  | .sum => on1 sumB
  | .max => on1 maxB
  | .min => on1 minB
  | .max2 => on2 max2B
  | .min2 => on2 min2B
  | .sorted => on1 sortedB
  | .tuple => on1 tupleB
  | .lenSet => on1 lenSetB
  | .sortedSet => on1 sortedSetB
  | .isInt => on1 (isB [.int, .bool])
  | .isBool => on1 (isB [.bool])
  | .isList => on1 (isB [.list])
  | .isStr => on1 (isB [.str])
  | .isTuple => on1 (isB [.tuple])
  | .all => on1 allB

def cutE {α : Type} (xs : List α) (lo hi : Option Int) : List α := (xs.drop (HT.sIx xs.length 0 lo)).take (HT.sIx xs.length xs.length hi - HT.sIx xs.length 0 lo)
/-- l.index(x) -/
def indexD : List PyData → PyData → Option Nat
  | [], _ => none
  | y :: ys, x => if PyData.eqv y x then some 0 else (indexD ys x).map (· + 1)
end VI
set_option Elab.async false
set_option linter.all false
set_option autoImplicit false
/-! The mini-interpreter's syntax and what it gives. -/
namespace VI
open PySem

inductive Tg where
  | name (i : Nat)
  | tup (is : List Nat)

mutual
/-- an expression -/
inductive CE where
  | lit (x : PyData)
  | glob (x : Str) (d : PyData)
  | var (i : Nat)
  | bin (op : BOp) (a b : CE)
  | neg (a : CE)
  | not (a : CE)
  | and (a b : CE)
  | or (a b : CE)
  | cmp (op : COp) (a b : CE)
  | chain (op op' : COp) (a b c : CE)
  | ife (c a b : CE)
  | call (f : Nat) (es : CEs)
  | bi (b : Bi) (es : CEs)
  | get2 (a k x : CE)
  | mt (m : Mt) (a : CE) (es : CEs)
  | idx (a i : CE)
  | slice (a lo hi : CE)
  | tuple (es : CEs)
  | fr (c : CO)
/-- expressions in a row -/
inductive CEs where
  | nil
  | cons (e : CE) (es : CEs)
/-- what gives a new list or dict -/
inductive CO where
  | list (es : CEs)
  | listOf (a : CE)
  | dict0
  | dict1 (k x : CE)
  | comp (elt : CE) (tg : Tg) (it : It) (cond : CE) (vs : List Nat)
/-- what is walked -/
inductive It where
  | seq (a : CE)
  | range1 (a : CE)
  | range2 (a b : CE)
  | enum (a : CE)
  | zip (a b : CE)
  | rev (a : CE)
  | keys (a : CE)
end

/-- what a call of a def gives -/
inductive PO where
  | stuck
  | ok (x : PyData)
  | exc (x : Exc)
abbrev Fns := Nat → List PyData → PO

def setAll : List Nat → List PyData → Env → Env
  | i :: is, x :: xs, ρ => setAll is xs (ρ.set i (.d x))
  | _, _, ρ => ρ
def asg (tg : Tg) (x : PyData) (ρ : Env) : Option Env := match tg with
  | .name i => some (ρ.set i (.d x))
  | .tup is => match x with
    | .tuple xs => if xs.length = is.length then some (setAll is xs ρ) else none
    | _ => none
def wipeE (ρ : Env) : List Nat → Env
  | [] => ρ
  | v :: vs => (wipeE ρ vs).set v .unb
/-- the slots vs as they were -/
def backE (ρ₀ ρ : Env) : List Nat → Env
  | [] => ρ
  | v :: vs => (backE ρ₀ ρ vs).set v (ρ₀[v]?.getD .unb)
def plainS : SV → Bool
  | .unb => true
  | .d _ => true
  | _ => false
def okWipe (ρ : Env) (vs : List Nat) : Bool := vs.all fun v => match ρ[v]? with
  | some s => plainS s
  | none => false
def truE (v : EV) (ρ : Env) : Out Bool := ofO ((view ρ v).bind truD) ρ
def freezeAll : List EV → Env → Out (List PyData)
  | [], ρ => .ok [] ρ
  | v :: vs, ρ => (freeze v ρ).bind fun x ρ => (freezeAll vs ρ).bind fun xs ρ => .ok (x :: xs) ρ
def views (ρ : Env) : List EV → Option (List PyData)
  | [] => some []
  | v :: vs => match view ρ v, views ρ vs with
    | some x, some xs => some (x :: xs)
    | _, _ => none
/-- a call's end: what is handed in stays the caller's own where a number, a text .. is handed back -/
def callE (r : PO) (vs : List EV) (ρ : Env) : Out EV := match r with
  | .stuck => .stuck
  | .exc x => .exc x ρ
  | .ok x => if isScalar x then .ok (.d x) ρ else (freezeAll vs ρ).bind fun _ ρ => .ok (.d x) ρ
def listD : PyData → Option (List PyData)
  | .list xs => some xs
  | _ => none
def sliceD (x : PyData) (l h : Option Int) : Option PyData := match x with
  | .list xs => some (.list (cutE xs l h))
  | .tuple xs => some (.tuple (cutE xs l h))
  | .str z => if small z.length then some (.str (Txt.slice z l h)) else none
  | _ => none
def idxD (x i : PyData) : Option PyData := match x with
  | .list xs => match i with
    | .int j => L2.atI xs j
    | _ => none
  | .tuple xs => match i with
    | .int j => L2.atI xs j
    | _ => none
  | .str z => match i with
    | .int j => if small z.length then (L2.atI z.cps.toList j).map fun c => .str ⟨#[c]⟩ else none
    | _ => none
  | .dict kvs => (undict kvs).bind fun kvs => (dKey kvs i).bind fun k => dLook kvs k
  | _ => none
def getD (x k y : PyData) : Option PyData := match x with
  | .dict kvs => (undict kvs).bind fun kvs => (dKey kvs k).map fun k => (dLook kvs k).getD y
  | _ => none
def indexM (x : PyData) (as : List PyData) : Option PyData := match x, as with
  | .list ds, [x] => if SeqAt.shaped x && SeqAt.shaped (.list ds) then (indexD ds x).map fun i => .int (i : Nat) else none
  | _, _ => none
def joinM (x : PyData) (as : List PyData) : Option PyData := match x, as with
  | .str z, [.list xs] => (strsOf xs).bind fun ys => if (ys.map (·.length)).sum + ys.length * z.length ≤ most then some (.str (Txt.join z ys)) else none
  | _, _ => none
def splitM (x : PyData) (as : List PyData) : Option PyData := match x, as with
  | .str z, [.str y] => if (y.length == 0) = false ∧ z.length ≤ most then some (.list ((Txt.split z y).map .str)) else none
  | _, _ => none
def partM (x : PyData) (as : List PyData) : Option PyData := match x, as with
  | .str z, [.str y] => if (y.length == 0) = false ∧ z.length ≤ most then some (.tuple [.str (Txt.partition z y).1, .str (Txt.partition z y).2.1, .str (Txt.partition z y).2.2]) else none
  | _, _ => none
def countM (x : PyData) (as : List PyData) : Option PyData := match x, as with
  | .str z, [.str y] => some (.int (Txt.count z y))
  | _, _ => none
def upperM (x : PyData) (as : List PyData) : Option PyData := match x, as with
  | .str z, [] => if z.length ≤ 5000000 then some (.str (Txt.upper z)) else none
  | _, _ => none
def mtD : Mt → PyData → List PyData → Option PyData
  | .index => indexM
  | .join => joinM
  | .split => splitM
  | .partition => partM
  | .count => countM
  | .upper => upperM
def mtTy : Mt → Ty
  | .index => .list
  | _ => .str
def signs (z : Str) : List PyData := z.cps.toList.map fun c => .str ⟨#[c]⟩
def seqD : PyData → Option (List PyData)
  | .list xs => some xs
  | .tuple xs => some xs
  | .str z => some (signs z)
  | _ => none
def flatK : NK → Bool
  | .num _ => true
  | .text _ => true
  | _ => false
/-- the keys of a dict, numbers or texts -/
def keysD : PyData → Option (List PyData)
  | .dict l => (undict l).bind fun kvs => if kvs.all (fun p => flatK p.1) then some (kvs.map fun p => p.1.data) else none
  | _ => none
/-- of closed data alone -/
def keysV (fz : Bool) : EV → Option (List PyData)
  | .d y => if fz then none else keysD y
  | .own _ => none
/-- -(2^62) ≤ i < 2^62, in a form that stands still at an open number -/
def range62 : Int → Bool
  | .ofNat n => Nat.ble n 4611686018427387903
  | .negSucc n => Nat.ble n 4611686018427387903
def rangeD (i j : Int) : List PyData := (List.range (j - i).toNat).map fun k => .int (i + (k : Nat))
def enumD (xs : List PyData) : List PyData := xs.zipIdx.map fun p => .tuple [.int (p.2 : Nat), p.1]
def zipD (xs ys : List PyData) : List PyData := (xs.zip ys).map fun p => .tuple [p.1, p.2]
def intP : PyData → Option Int
  | .int i => some i
  | _ => none
def isNoneL : CE → Bool
  | .lit .none => true
  | _ => false
/-- a slice's part -/
def partV (left : Bool) (v : Option PyData) : Option (Option Int) := if left then some none else (v.bind intP).map some

/-- what is walked: closed (fz), or seen as it stands -/
def look (fz : Bool) (v : EV) (ρ : Env) : Out PyData := if fz then freeze v ρ else ofO (view ρ v) ρ

def both {α : Type} (f : PyData → PyData → Option α) (x y : Option PyData) : Option α := x.bind fun x => y.bind fun y => f x y
variable (Φ : Fns)

/-- the loop of a comprehension -/
def compL (elt cond : Env → Out EV) (tg : Tg) (ρ₀ : Env) (vs : List Nat) : List PyData → List PyData → Env → Out (List PyData)
  | [], acc, ρ => .ok acc ρ
  | x :: xs, acc, ρ => match asg tg x (wipeE ρ vs) with
    | none => .stuck
    | some ρ1 => match cond ρ1 with
      | .ok c ρ2 => match truE c ρ2 with
        | .ok true ρ2 => match elt ρ2 with
          | .ok v ρ3 => match freeze v ρ3 with
            | .ok y ρ4 => if small (acc.length + 1) then compL elt cond tg ρ₀ vs xs (acc ++ [y]) ρ4 else .stuck
            | _ => .stuck
          | _ => .stuck
        | .ok false ρ2 => compL elt cond tg ρ₀ vs xs acc ρ2
        | _ => .stuck
      | _ => .stuck

mutual
def ev : CE → Env → Out EV
  | .lit x, ρ => .ok (.d x) ρ
  | .glob _ x, ρ => .ok (.d x) ρ
  | .var i, ρ => match ρ[i]? with
    | some (.d x) => .ok (.d x) ρ
    | some .unb => .stuck
    | some _ => .ok (.own i) ρ
    | none => .stuck
  | .bin op a b, ρ => (ev a ρ).bind fun x ρ => (ev b ρ).bind fun y ρ => ofO ((both (binD op) (view ρ x) (view ρ y)).map .d) ρ
  | .neg a, ρ => (ev a ρ).bind fun x ρ => ofO (((view ρ x).bind negD).map .d) ρ
  | .not a, ρ => (ev a ρ).bind fun x ρ => (truE x ρ).bind fun b ρ => .ok (.d (.bool !b)) ρ
  | .and a b, ρ => (ev a ρ).bind fun x ρ => (truE x ρ).bind fun t ρ => if t then ev b ρ else .ok x ρ
  | .or a b, ρ => (ev a ρ).bind fun x ρ => (truE x ρ).bind fun t ρ => if t then .ok x ρ else ev b ρ
  | .cmp op a b, ρ => (ev a ρ).bind fun x ρ => (ev b ρ).bind fun y ρ => ofO ((both (cmpD op) (view ρ x) (view ρ y)).map fun t => .d (.bool t)) ρ
  | .chain op op' a b c, ρ => (ev a ρ).bind fun x ρ => (ev b ρ).bind fun y ρ => (ofO (both (cmpD op) (view ρ x) (view ρ y)) ρ).bind fun t ρ => if t then (ev c ρ).bind fun z ρ => ofO ((both (cmpD op') (view ρ y) (view ρ z)).map fun t => .d (.bool t)) ρ
    else .ok (.d (.bool false)) ρ
  | .ife c a b, ρ => (ev c ρ).bind fun x ρ => (truE x ρ).bind fun t ρ => if t then ev a ρ else ev b ρ
  | .call f es, ρ => (evs es ρ).bind fun vs ρ => (ofO (views ρ vs) ρ).bind fun xs ρ => callE (Φ f xs) vs ρ
  | .bi b es, ρ => (evs es ρ).bind fun vs ρ => ofO (((views ρ vs).bind (biD b)).map .d) ρ
  | .get2 a k y, ρ => (ev a ρ).bind fun x ρ => if (view ρ x).map tyD = some .dict then (ev k ρ).bind fun k ρ => (ev y ρ).bind fun y ρ => (freeze y ρ).bind fun y ρ => ofO ((both (fun x k => getD x k y) (view ρ x) (view ρ k)).map .d) ρ
    else .stuck
  | .mt m a es, ρ => (ev a ρ).bind fun x ρ => if (view ρ x).map tyD = some (mtTy m) then (evs es ρ).bind fun vs ρ => ofO (((view ρ x).bind fun x => (views ρ vs).bind fun xs => mtD m x xs).map .d) ρ
    else .stuck
  | .idx a i, ρ => (ev a ρ).bind fun x ρ => (ev i ρ).bind fun y ρ => ofO ((both idxD (view ρ x) (view ρ y)).map .d) ρ
  | .slice a lo hi, ρ => (ev a ρ).bind fun x ρ => (ev lo ρ).bind fun l ρ => (ofO (partV (isNoneL lo) (view ρ l)) ρ).bind fun l ρ => (ev hi ρ).bind fun h ρ => (ofO (partV (isNoneL hi) (view ρ h)) ρ).bind fun h ρ =>
    ofO (((view ρ x).bind fun x => sliceD x l h).map .d) ρ
  | .tuple es, ρ => (evs es ρ).bind fun vs ρ => (freezeAll vs ρ).bind fun xs ρ => .ok (.d (.tuple xs)) ρ
  | .fr c, ρ => (evO c ρ).bind fun s ρ => ofO ((slotD s).map .d) ρ
def evs : CEs → Env → Out (List EV)
  | .nil, ρ => .ok [] ρ
  | .cons e es, ρ => (ev e ρ).bind fun v ρ => (evs es ρ).bind fun vs ρ => .ok (v :: vs) ρ
def evO : CO → Env → Out SV
  | .list es, ρ => (evs es ρ).bind fun vs ρ => (freezeAll vs ρ).bind fun xs ρ => .ok (.lst xs) ρ
  | .listOf a, ρ => (ev a ρ).bind fun x ρ => ofO (((view ρ x).bind asList).map .lst) ρ
  | .dict0, ρ => .ok (.dic []) ρ
  | .dict1 k x, ρ => (ev k ρ).bind fun k ρ => (ev x ρ).bind fun x ρ => (freeze x ρ).bind fun x ρ => (ofO ((view ρ k).bind (dKey [])) ρ).bind fun k ρ => .ok (.dic [(k, x)]) ρ
  | .comp elt tg it cond vs, ρ => (evI false it ρ).bind fun xs ρ => if okWipe ρ vs then
      (compL (fun ρ => ev elt ρ) (fun ρ => ev cond ρ) tg ρ vs xs [] ρ).bind fun ys ρ' => .ok (.lst ys) (backE ρ ρ' vs)
    else .stuck
def evI (fz : Bool) : It → Env → Out (List PyData)
  | .seq a, ρ => (ev a ρ).bind fun x ρ => (look fz x ρ).bind fun x ρ => ofO (seqD x) ρ
  | .range1 a, ρ => (ev a ρ).bind fun x ρ => (ofO ((view ρ x).bind intP) ρ).bind fun i ρ => if range62 i then .ok (rangeD 0 i) ρ else .stuck
  | .range2 a b, ρ => (ev a ρ).bind fun x ρ => (ev b ρ).bind fun y ρ => (ofO ((view ρ x).bind intP) ρ).bind fun i ρ => (ofO ((view ρ y).bind intP) ρ).bind fun j ρ => if range62 i && range62 j then .ok (rangeD i j) ρ else .stuck
  | .enum a, ρ => (ev a ρ).bind fun x ρ => (look fz x ρ).bind fun x ρ => ofO ((listD x).map enumD) ρ
  | .zip a b, ρ => (ev a ρ).bind fun x ρ => (ev b ρ).bind fun y ρ => (look fz x ρ).bind fun x ρ => (look fz y ρ).bind fun y ρ => ofO ((listD x).bind fun xs => (listD y).map fun ys => zipD xs ys) ρ
  | .rev a, ρ => (ev a ρ).bind fun x ρ => (look fz x ρ).bind fun x ρ => ofO ((listD x).map List.reverse) ρ
  | .keys a, ρ => (ev a ρ).bind fun x ρ => ofO (keysV fz x) ρ
end

/-! ### statements -/
mutual
inductive CS where
  | set (i : Nat) (e : CE)
  | own (i : Nat) (e : CO)
  | unpack (is : List Nat) (e : CE)
  | par (is : List Nat) (es : CEs)
  | put (i : Nat) (k e : CE)
  | append (i : Nat) (e : CE)
  | insert (i : Nat) (k e : CE)
  | pop (i : Nat)
  | popTo (j i : Nat)
  | expr (e : CE)
  | ret (e : CE)
  | retN
  | ite (c : CE) (a b : CSs)
  | wh (c : CE) (b : CSs)
  | for_ (tg : Tg) (it : It) (b : CSs)
  | brk
  | cont
  | pass
  | never
  | raise (c : Str)
inductive CSs where
  | nil
  | cons (s : CS) (r : CSs)
end

/-- how a block ends -/
inductive Fl where
  | nx | bk | ct
  | rt (x : PyData)

def fuelW : Nat := 2 ^ 64
def listPut (ds : List PyData) (k x : PyData) : Option (List PyData) := match k with
  | .int i => (L2.ixN ds.length i).map fun j => ds.set j x
  | _ => none

def isLst (ρ : Env) (i : Nat) : Bool := match ρ[i]? with
  | some (.lst _) => true
  | _ => false
def isOwn (ρ : Env) (i : Nat) : Bool := match ρ[i]? with
  | some (.lst _) => true
  | some (.dic _) => true
  | _ => false
/-- the own list in slot i rewritten -/
def onLst (i : Nat) (f : List PyData → Option (List PyData)) (ρ : Env) : Out Fl := match ρ[i]? with
  | some (.lst ds) => match f ds with
    | some ds' => .ok .nx (ρ.set i (.lst ds'))
    | none => .stuck
  | _ => .stuck
def putE (i : Nat) (k : Option PyData) (x : PyData) (ρ : Env) : Out Fl := match ρ[i]? with
  | some (.lst ds) => match k.bind fun k => listPut ds k x with
    | some ds' => .ok .nx (ρ.set i (.lst ds'))
    | none => .stuck
  | some (.dic kvs) => match k.bind (dKey kvs) with
    | some kk => if small (kvs.length + 1) then .ok .nx (ρ.set i (.dic (dPut kvs kk x))) else .stuck
    | none => .stuck
  | _ => .stuck
def lastOf (ρ : Env) (i : Nat) : Option PyData := match ρ[i]? with
  | some (.lst ds) => ds.getLast?
  | _ => none

/-- a while -/
def whileL (c : Env → Out EV) (b : Env → Out Fl) : Nat → Env → Out Fl
  | 0, _ => .stuck
  | n + 1, ρ => (c ρ).bind fun v ρ => (truE v ρ).bind fun t ρ => if t then (b ρ).bind fun f ρ => match f with
      | .nx => whileL c b n ρ
      | .ct => whileL c b n ρ
      | .bk => .ok .nx ρ
      | .rt x => .ok (.rt x) ρ
    else .ok .nx ρ
/-- a for -/
def forL (tg : Tg) (b : Env → Out Fl) : List PyData → Env → Out Fl
  | [], ρ => .ok .nx ρ
  | x :: xs, ρ => match asg tg x ρ with
    | none => .stuck
    | some ρ => (b ρ).bind fun f ρ => match f with
      | .nx => forL tg b xs ρ
      | .ct => forL tg b xs ρ
      | .bk => .ok .nx ρ
      | .rt x => .ok (.rt x) ρ
mutual
def ex : CS → Env → Out Fl
  | .set i e, ρ => (ev Φ e ρ).bind fun v ρ => (freeze v ρ).bind fun x ρ => .ok .nx (ρ.set i (.d x))
  | .own i e, ρ => (evO Φ e ρ).bind fun s ρ => .ok .nx (ρ.set i s)
  | .unpack is e, ρ => (ev Φ e ρ).bind fun v ρ => (freeze v ρ).bind fun x ρ => match asg (.tup is) x ρ with
    | some ρ => .ok .nx ρ
    | none => .stuck
  | .par is es, ρ => (evs Φ es ρ).bind fun vs ρ => (freezeAll vs ρ).bind fun xs ρ => if xs.length = is.length then .ok .nx (setAll is xs ρ) else .stuck
  | .put i k e, ρ => (ev Φ e ρ).bind fun v ρ => (freeze v ρ).bind fun x ρ => if isOwn ρ i then (ev Φ k ρ).bind fun k ρ => putE i (view ρ k) x ρ else .stuck
  | .append i e, ρ => if isLst ρ i then (ev Φ e ρ).bind fun v ρ => (freeze v ρ).bind fun x ρ => onLst i (fun ds => if small (ds.length + 1) then some (ds ++ [x]) else none) ρ else .stuck
  | .insert i k e, ρ => if isLst ρ i then (ev Φ k ρ).bind fun k ρ => (ev Φ e ρ).bind fun v ρ => (freeze v ρ).bind fun x ρ => (ofO ((view ρ k).bind intP) ρ).bind fun j ρ =>
      onLst i (fun ds => if small (ds.length + 1) && decide (0 ≤ j) && decide (j < 2 ^ 63) then some (ds.take j.toNat ++ [x] ++ ds.drop j.toNat) else none) ρ else .stuck
  | .pop i, ρ => onLst i (fun ds => if ds.isEmpty then none else some ds.dropLast) ρ
  | .popTo j i, ρ => (ofO (lastOf ρ i) ρ).bind fun x ρ => (onLst i (fun ds => some ds.dropLast) ρ).bind fun _ ρ => .ok .nx (ρ.set j (.d x))
  | .expr e, ρ => (ev Φ e ρ).bind fun _ ρ => .ok .nx ρ
  | .ret e, ρ => (ev Φ e ρ).bind fun v ρ => (freeze v ρ).bind fun x ρ => .ok (.rt x) ρ
  | .retN, ρ => .ok (.rt .none) ρ
  | .ite c a b, ρ => (ev Φ c ρ).bind fun v ρ => (truE v ρ).bind fun t ρ => if t then exs a ρ else exs b ρ
  | .wh c b, ρ => whileL (fun ρ => ev Φ c ρ) (fun ρ => exs b ρ) fuelW ρ
  | .for_ tg it b, ρ => (evI Φ true it ρ).bind fun xs ρ => forL tg (fun ρ => exs b ρ) xs ρ
  | .brk, ρ => .ok .bk ρ
  | .cont, ρ => .ok .ct ρ
  | .pass, ρ => .ok .nx ρ
  | .never, _ => .stuck
  | .raise c, ρ => .exc ⟨c, none⟩ ρ
def exs : CSs → Env → Out Fl
  | .nil, ρ => .ok .nx ρ
  | .cons s r, ρ => (ex s ρ).bind fun f ρ => match f with
    | .nx => exs r ρ
    | f => .ok f ρ
end

/-- a def: how many names it has, its body -/
structure Fn where
  names : Nat
  body : CSs
def startE (n : Nat) (xs : List PyData) : Env := xs.map .d ++ List.replicate (n - xs.length) .unb
def run (f : Fn) (xs : List PyData) : PO := match exs Φ f.body (startE f.names xs) with
  | .ok (.rt x) _ => .ok x
  | .ok .nx _ => .ok .none
  | .exc x _ => .exc x
  | _ => .stuck
/-- the defs of a text, each calling earlier ones alone -/
def fns : List Fn → Fns
  | [] => fun _ _ => .stuck
  | f :: r => fun i xs => if i = r.length then run (fns r) f xs else fns r i xs
end VI
set_option Elab.async false
set_option linter.all false
set_option autoImplicit false
set_option maxRecDepth 20000
/-! The mini-interpreter's data in the abstract heap. -/
namespace VI
open PySem PySem.Spec L2

/-- what a text's walk stands on -/
structure Sx where
  P : Program
  w : World
  K : PySem.W.Frag
  mg : Str → Option Value

def nkOf : Key → NK
  | .inl i => .num i
  | .inr x => .text x

/-- a dict whose keys are tuples: its own object alone -/
def rawT (P : Program) (w : World) (a : Addr) (ks : List (NK × Addr × V)) : Heap → Prop := fun h =>
  ks.length ≤ sizeLine ∧ (a == sysModules) = false ∧
  ∃ xs : List (NK × Addr × Value), Paired (fun (p : NK × Addr × V) (q : NK × Addr × Value) => p.1 = q.1 ∧ p.2.1 = q.2.1 ∧ RelV p.2.2 q.2.2) ks xs ∧
    ∃ o es ep, h.get? a = some o ∧ o.ExactDict ∧ o.data = .dict es ep ∧ es.toList = xs.map (entryOfKey (nestedKind P w)) ∧ (xs.map (·.1)).Nodup

mutual
/-- the value v is the data d, in the heap F -/
inductive Rp (S : Sx) (F : Hp) : V → PyData → Prop
  | non : Rp S F .non .none
  | bl (b : Bool) : Rp S F (.bl b) (.bool b)
  | int (i : Int) : Rp S F (.int i) (.int i)
  | str (x : Str) : Rp S F (.str x) (.str x)
  | lst {a : Addr} {xs : List V} {ds : List PyData} : SqL S.K F a xs → RpAll S F xs ds → Rp S F (.ref a) (.list ds)
  | tup {a : Addr} {xs : List V} {ds : List PyData} : SqT S.K F a xs → RpAll S F xs ds → Rp S F (.ref a) (.tuple ds)
  | dicK {a : Addr} {ks : List (Key × V)} {kvs : List (NK × PyData)} {d : PyData} : Rd F a (.dK ks) → RpK S F ks kvs → (kvs.map (·.1)).Nodup → d = dictOf kvs → Rp S F (.ref a) d
  | dicT {a : Addr} {ks : List (NK × Addr × V)} {kvs : List (NK × PyData)} {d : PyData} : F a = some (.ext (rawT S.P S.w a ks)) → RpT S F ks kvs → kvs ≠ [] → d = dictOf kvs → Rp S F (.ref a) d
inductive RpAll (S : Sx) (F : Hp) : List V → List PyData → Prop
  | nil : RpAll S F [] []
  | cons {v : V} {vs : List V} {d : PyData} {ds : List PyData} : Rp S F v d → RpAll S F vs ds → RpAll S F (v :: vs) (d :: ds)
inductive RpK (S : Sx) (F : Hp) : List (Key × V) → List (NK × PyData) → Prop
  | nil : RpK S F [] []
  | cons {k : Key} {v : V} {r : List (Key × V)} {k' : NK} {d : PyData} {r' : List (NK × PyData)} : nkOf k = k' → Rp S F v d → RpK S F r r' → RpK S F ((k, v) :: r) ((k', d) :: r')
inductive RpT (S : Sx) (F : Hp) : List (NK × Addr × V) → List (NK × PyData) → Prop
  | nil : RpT S F [] []
  | cons {k : NK} {b : Addr} {v : V} {r : List (NK × Addr × V)} {d : PyData} {r' : List (NK × PyData)} : okKey k = true → Rp S F (.ref b) k.data → Rp S F v d → RpT S F r r' → RpT S F ((k, b, v) :: r) ((k, d) :: r')
end

section
variable {S : Sx} {F F' H H' : Hp}
theorem SqT.same {K : PySem.W.Frag} {a : Addr} {xs : List V} (e : Same H H') (h : SqT K H a xs) : SqT K H' a xs := by
  rcases h with (h | ⟨o, h⟩) | h
  · exact .inl (.inl (e _ _ h))
  · exact .inl (.inr ⟨o, e _ _ h⟩)
  · exact .inr h
theorem Rd.same {a : Addr} {u : HO} (e : Same H H') (h : Rd H a u) : Rd H' a u := by
  rcases h with h | ⟨o, h⟩
  · exact .inl (e _ _ h)
  · exact .inr ⟨o, e _ _ h⟩
mutual
theorem Rp.mono (e : Same F F') : ∀ {v : V} {d : PyData}, Rp S F v d → Rp S F' v d
  | _, _, .non => .non
  | _, _, .bl b => .bl b
  | _, _, .int i => .int i
  | _, _, .str x => .str x
  | _, _, .lst h r => .lst (Same.seq e h) (RpAll.mono e r)
  | _, _, .tup h r => .tup (SqT.same e h) (RpAll.mono e r)
  | _, _, .dicK h r n q => .dicK (Rd.same e h) (RpK.mono e r) n q
  | _, _, .dicT h r n q => .dicT (e _ _ h) (RpT.mono e r) n q
theorem RpAll.mono (e : Same F F') : ∀ {vs : List V} {ds : List PyData}, RpAll S F vs ds → RpAll S F' vs ds
  | _, _, .nil => .nil
  | _, _, .cons h r => .cons (Rp.mono e h) (RpAll.mono e r)
theorem RpK.mono (e : Same F F') : ∀ {vs : List (Key × V)} {ds : List (NK × PyData)}, RpK S F vs ds → RpK S F' vs ds
  | _, _, .nil => .nil
  | _, _, .cons k h r => .cons k (Rp.mono e h) (RpK.mono e r)
theorem RpT.mono (e : Same F F') : ∀ {vs : List (NK × Addr × V)} {ds : List (NK × PyData)}, RpT S F vs ds → RpT S F' vs ds
  | _, _, .nil => .nil
  | _, _, .cons k b h r => .cons k (Rp.mono e b) (Rp.mono e h) (RpT.mono e r)
end
theorem RpAll.length : ∀ {vs : List V} {ds : List PyData}, RpAll S F vs ds → vs.length = ds.length
  | _, _, .nil => rfl
  | _, _, .cons _ r => congrArg (· + 1) (RpAll.length r)
theorem RpK.length : ∀ {vs : List (Key × V)} {ds : List (NK × PyData)}, RpK S F vs ds → vs.length = ds.length
  | _, _, .nil => rfl
  | _, _, .cons _ _ r => congrArg (· + 1) (RpK.length r)
theorem RpT.length : ∀ {vs : List (NK × Addr × V)} {ds : List (NK × PyData)}, RpT S F vs ds → vs.length = ds.length
  | _, _, .nil => rfl
  | _, _, .cons _ _ _ r => congrArg (· + 1) (RpT.length r)
theorem RpAll.get : ∀ {vs : List V} {ds : List PyData}, RpAll S F vs ds → ∀ {i : Nat} {d : PyData}, ds[i]? = some d → ∃ v, vs[i]? = some v ∧ Rp S F v d
  | _, _, .nil, _, _, e => by simp at e
  | _, _, .cons h r, 0, _, e => by simp at e; subst e; exact ⟨_, rfl, h⟩
  | _, _, .cons h r, i + 1, _, e => by
    obtain ⟨v, a, b⟩ := RpAll.get r (i := i) (by simpa using e)
    exact ⟨v, by simpa using a, b⟩
theorem RpAll.getV : ∀ {vs : List V} {ds : List PyData}, RpAll S F vs ds → ∀ {i : Nat} {v : V}, vs[i]? = some v → ∃ d, ds[i]? = some d ∧ Rp S F v d
  | _, _, .nil, _, _, e => by simp at e
  | _, _, .cons h r, 0, _, e => by simp at e; subst e; exact ⟨_, rfl, h⟩
  | _, _, .cons h r, i + 1, _, e => by
    obtain ⟨v, a, b⟩ := RpAll.getV r (i := i) (by simpa using e)
    exact ⟨v, by simpa using a, b⟩
theorem RpAll.append : ∀ {vs ws : List V} {ds es : List PyData}, RpAll S F vs ds → RpAll S F ws es → RpAll S F (vs ++ ws) (ds ++ es)
  | _, _, _, _, .nil, q => q
  | _, _, _, _, .cons h r, q => .cons h (RpAll.append r q)
theorem RpAll.one {v : V} {d : PyData} (h : Rp S F v d) : RpAll S F [v] [d] := .cons h .nil
theorem RpAll.take : ∀ {vs : List V} {ds : List PyData} (n : Nat), RpAll S F vs ds → RpAll S F (vs.take n) (ds.take n)
  | _, _, 0, _ => by simp; exact .nil
  | _, _, _ + 1, .nil => .nil
  | _, _, n + 1, .cons h r => .cons h (RpAll.take n r)
theorem RpAll.drop : ∀ {vs : List V} {ds : List PyData} (n : Nat), RpAll S F vs ds → RpAll S F (vs.drop n) (ds.drop n)
  | _, _, 0, h => h
  | _, _, _ + 1, .nil => .nil
  | _, _, n + 1, .cons _ r => RpAll.drop n r
theorem RpAll.set {v : V} {d : PyData} (q : Rp S F v d) : ∀ {vs : List V} {ds : List PyData} (n : Nat), RpAll S F vs ds → RpAll S F (vs.set n v) (ds.set n d)
  | _, _, _, .nil => .nil
  | _, _, 0, .cons _ r => .cons q r
  | _, _, n + 1, .cons h r => .cons h (RpAll.set q n r)
theorem RpAll.reverse : ∀ {vs : List V} {ds : List PyData}, RpAll S F vs ds → RpAll S F vs.reverse ds.reverse
  | _, _, .nil => .nil
  | _, _, .cons h r => by
    rw [List.reverse_cons, List.reverse_cons]
    exact (RpAll.reverse r).append (.one h)
theorem RpAll.rep {vs : List V} {ds : List PyData} (h : RpAll S F vs ds) : ∀ n : Nat, RpAll S F (List.replicate n vs).flatten (List.replicate n ds).flatten
  | 0 => .nil
  | n + 1 => by
    rw [List.replicate_succ, List.replicate_succ, List.flatten_cons, List.flatten_cons]
    exact h.append (RpAll.rep h n)

/-! ### numbers, texts -/
theorem Rp.intE {v : V} {i : Int} (h : Rp S F v (.int i)) : v = .int i := by
  cases h with
  | int => rfl
  | dicK _ _ _ e => simp [dictOf] at e
  | dicT _ _ _ e => simp [dictOf] at e
theorem Rp.strE {v : V} {i : Str} (h : Rp S F v (.str i)) : v = .str i := by
  cases h with
  | str => rfl
  | dicK _ _ _ e => simp [dictOf] at e
  | dicT _ _ _ e => simp [dictOf] at e
theorem Rp.blE {v : V} {i : Bool} (h : Rp S F v (.bool i)) : v = .bl i := by
  cases h with
  | bl => rfl
  | dicK _ _ _ e => simp [dictOf] at e
  | dicT _ _ _ e => simp [dictOf] at e
theorem Rp.nonE {v : V} (h : Rp S F v .none) : v = .non := by
  cases h with
  | non => rfl
  | dicK _ _ _ e => simp [dictOf] at e
  | dicT _ _ _ e => simp [dictOf] at e
theorem Rp.lstE {v : V} {ds : List PyData} (h : Rp S F v (.list ds)) : ∃ a xs, v = .ref a ∧ SqL S.K F a xs ∧ RpAll S F xs ds := by
  cases h with
  | lst a b => exact ⟨_, _, rfl, a, b⟩
  | dicK _ _ _ e => simp [dictOf] at e
  | dicT _ _ _ e => simp [dictOf] at e
theorem Rp.tupE {v : V} {ds : List PyData} (h : Rp S F v (.tuple ds)) : ∃ a xs, v = .ref a ∧ SqT S.K F a xs ∧ RpAll S F xs ds := by
  cases h with
  | tup a b => exact ⟨_, _, rfl, a, b⟩
  | dicK _ _ _ e => simp [dictOf] at e
  | dicT _ _ _ e => simp [dictOf] at e
/-- a dict's object -/
def DicR (S : Sx) (F : Hp) (a : Addr) (o : HO) (kvs : List (NK × PyData)) : Prop :=
  (∃ ks, o = .dK ks ∧ RpK S F ks kvs ∧ (kvs.map (·.1)).Nodup) ∨ ∃ ks, o = .ext (rawT S.P S.w a ks) ∧ RpT S F ks kvs ∧ kvs ≠ []
/-- the same, the dict perhaps locked -/
def DicL (S : Sx) (F : Hp) (a : Addr) (o : HO) (kvs : List (NK × PyData)) : Prop :=
  DicR S F a o kvs ∨ ∃ od ks, o = .frz od (.dK ks) ∧ RpK S F ks kvs ∧ (kvs.map (·.1)).Nodup
theorem DicR.mono (e : Same F F') {a : Addr} {o : HO} {kvs : List (NK × PyData)} (h : DicR S F a o kvs) : DicR S F' a o kvs := by
  rcases h with ⟨ks, q, r, n⟩ | ⟨ks, q, r, n⟩
  · exact .inl ⟨ks, q, r.mono e, n⟩
  · exact .inr ⟨ks, q, r.mono e, n⟩
mutual
theorem keyOf_data : ∀ k : NK, keyOf k.data = some k
  | .none => by simp [NestedKey.data, keyOf]
  | .num i => by simp [NestedKey.data, keyOf]
  | .text x => by simp [NestedKey.data, keyOf]
  | .tup ks => by simp [NestedKey.data, keyOf, keysOf_datas ks]
theorem keysOf_datas : ∀ ks : List NK, keysOf (NestedKey.datas ks) = some ks
  | [] => by simp [NestedKey.datas, keysOf]
  | k :: ks => by simp [NestedKey.datas, keysOf, keyOf_data k, keysOf_datas ks]
end
mutual
theorem data_keyOf : ∀ (d : PyData) {k : NK}, keyOf d = some k → k.data = d
  | .none, _, h => by simp [keyOf] at h; subst h; simp [NestedKey.data]
  | .int i, _, h => by simp [keyOf] at h; subst h; simp [NestedKey.data]
  | .str i, _, h => by simp [keyOf] at h; subst h; simp [NestedKey.data]
  | .tuple xs, _, h => by
    simp only [keyOf, Option.map_eq_some_iff] at h
    obtain ⟨ks, h, rfl⟩ := h
    simp [NestedKey.data, datas_keysOf xs h]
  | .bool _, _, h => by simp [keyOf] at h
  | .list _, _, h => by simp [keyOf] at h
  | .dict _, _, h => by simp [keyOf] at h
theorem datas_keysOf : ∀ (ds : List PyData) {ks : List NK}, keysOf ds = some ks → NestedKey.datas ks = ds
  | [], _, h => by simp [keysOf] at h; subst h; simp [NestedKey.datas]
  | d :: ds, _, h => by
    simp only [keysOf] at h
    split at h
    · rename_i k ks h1 h2
      simp at h
      subst h
      simp [NestedKey.datas, data_keyOf d h1, datas_keysOf ds h2]
    · cases h
end
theorem undict_of : ∀ kvs : List (NK × PyData), undict (kvs.map fun p => (p.1.data, p.2)) = some kvs
  | [] => rfl
  | (k, v) :: r => by simp [undict, keyOf_data, undict_of r]
theorem undict_eq : ∀ (l : List (PyData × PyData)) {kvs : List (NK × PyData)}, undict l = some kvs → PyData.dict l = dictOf kvs
  | [], _, h => by simp [undict] at h; subst h; rfl
  | (k, v) :: r, _, h => by
    simp only [undict] at h
    split at h
    · rename_i k' r' h1 h2
      simp at h
      subst h
      have e := undict_eq r h2
      simp only [dictOf, PyData.dict.injEq] at e
      simp [dictOf, data_keyOf k h1, e]
    · cases h
theorem dictOf_inj {a b : List (NK × PyData)} (h : dictOf a = dictOf b) : a = b := by
  simp only [dictOf, PyData.dict.injEq] at h
  have h1 := undict_of a
  rw [h, undict_of b] at h1
  exact (Option.some.inj h1).symm
theorem DicL.two {a : Addr} {o : HO} {kvs : List (NK × PyData)} (r : DicL S F a o kvs) (h : H a = some o) : (∃ ks, Rd H a (.dK ks) ∧ RpK S F ks kvs ∧ (kvs.map (·.1)).Nodup) ∨ ∃ ks, H a = some (.ext (rawT S.P S.w a ks)) ∧ RpT S F ks kvs ∧ kvs ≠ [] := by
  rcases r with (⟨ks, rfl, r, n⟩ | ⟨ks, rfl, r, n⟩) | ⟨od, ks, rfl, r, n⟩
  · exact .inl ⟨ks, .inl h, r, n⟩
  · exact .inr ⟨ks, h, r, n⟩
  · exact .inl ⟨ks, .inr ⟨od, h⟩, r, n⟩
theorem DicL.mono (e : Same F F') {a : Addr} {o : HO} {kvs : List (NK × PyData)} (h : DicL S F a o kvs) : DicL S F' a o kvs := by
  rcases h with h | ⟨od, ks, q, r, n⟩
  · exact .inl (h.mono e)
  · exact .inr ⟨od, ks, q, r.mono e, n⟩
theorem Rp.dicE {v : V} {kvs : List (NK × PyData)} (h : Rp S F v (dictOf kvs)) : ∃ a o, v = .ref a ∧ F a = some o ∧ DicL S F a o kvs := by
  generalize hd : dictOf kvs = d at h
  cases h with
  | dicK a b n e =>
    have := dictOf_inj (hd.trans e)
    subst this
    rcases a with a | ⟨od, a⟩
    · exact ⟨_, _, rfl, a, .inl (.inl ⟨_, rfl, b, n⟩)⟩
    · exact ⟨_, _, rfl, a, .inr ⟨_, _, rfl, b, n⟩⟩
  | dicT a b n e =>
    have := dictOf_inj (hd.trans e)
    subst this
    exact ⟨_, _, rfl, a, .inl (.inr ⟨_, rfl, b, n⟩)⟩
  | _ => simp [dictOf] at hd
theorem Rp.ofDic {a : Addr} {o : HO} {kvs : List (NK × PyData)} (h : F a = some o) (r : DicR S F a o kvs) : Rp S F (.ref a) (dictOf kvs) := by
  rcases r with ⟨ks, rfl, r, n⟩ | ⟨ks, rfl, r, n⟩
  · exact .dicK (.inl h) r n rfl
  · exact .dicT h r n rfl
theorem Rp.ofDicL {a : Addr} {o : HO} {kvs : List (NK × PyData)} (h : F a = some o) (r : DicL S F a o kvs) : Rp S F (.ref a) (dictOf kvs) := by
  rcases r with r | ⟨od, ks, rfl, r, n⟩
  · exact .ofDic h r
  · exact .dicK (.inr ⟨od, h⟩) r n rfl

/-! ### what is seen: closed data, or the cell itself -/
/-- x is seen as d: in F, or the object itself stands in H, its items in F -/
inductive Pk (S : Sx) (F H : Hp) : V → PyData → Prop
  | of {x : V} {d : PyData} : Rp S F x d → Pk S F H x d
  | lst {p : Addr} {xs : List V} {ds : List PyData} : H p = some (.lst xs) → RpAll S F xs ds → Pk S F H (.ref p) (.list ds)
  | dic {p : Addr} {o : HO} {kvs : List (NK × PyData)} : H p = some o → DicR S F p o kvs → Pk S F H (.ref p) (dictOf kvs)
inductive PkAll (S : Sx) (F H : Hp) : List V → List PyData → Prop
  | nil : PkAll S F H [] []
  | cons {v : V} {vs : List V} {d : PyData} {ds : List PyData} : Pk S F H v d → PkAll S F H vs ds → PkAll S F H (v :: vs) (d :: ds)
theorem Pk.rp (e : Same F H) {x : V} {d : PyData} (h : Pk S F H x d) : Rp S H x d := by
  cases h with
  | of h => exact h.mono e
  | lst h r => exact .lst (SqL.of h) (r.mono e)
  | dic h r => exact .ofDic h (r.mono e)
theorem Pk.lstE (e : Same F H) {x : V} {ds : List PyData} (h : Pk S F H x (.list ds)) : ∃ a xs, x = .ref a ∧ SqL S.K H a xs ∧ RpAll S F xs ds := by
  generalize hd : PyData.list ds = d at h
  cases h with
  | of h =>
    subst hd
    obtain ⟨a, xs, e1, h1, h2⟩ := h.lstE
    exact ⟨a, xs, e1, Same.seq e h1, h2⟩
  | lst h r =>
    cases hd
    exact ⟨_, _, rfl, SqL.of h, r⟩
  | dic h r => simp [dictOf] at hd
theorem Pk.tupE (e : Same F H) {x : V} {ds : List PyData} (h : Pk S F H x (.tuple ds)) : ∃ a xs, x = .ref a ∧ SqT S.K F a xs ∧ RpAll S F xs ds := by
  generalize hd : PyData.tuple ds = d at h
  cases h with
  | of h => subst hd; exact h.tupE
  | lst h r => cases hd
  | dic h r => simp [dictOf] at hd
theorem Pk.dicE (e : Same F H) {x : V} {kvs : List (NK × PyData)} (h : Pk S F H x (dictOf kvs)) : ∃ a o, x = .ref a ∧ H a = some o ∧ DicL S F a o kvs := by
  generalize hd : dictOf kvs = d at h
  cases h with
  | of h =>
    subst hd
    obtain ⟨a, o, e1, h1, h2⟩ := h.dicE
    exact ⟨a, o, e1, e _ _ h1, h2⟩
  | lst h r => simp [dictOf] at hd
  | dic h r =>
    have := dictOf_inj hd
    subst this
    exact ⟨_, _, rfl, h, .inl r⟩
theorem Pk.intE {x : V} {i : Int} (h : Pk S F H x (.int i)) : x = .int i := by
  generalize hd : PyData.int i = d at h
  cases h with
  | of h => subst hd; exact h.intE
  | lst h r => cases hd
  | dic h r => simp [dictOf] at hd
theorem Pk.strE {x : V} {i : Str} (h : Pk S F H x (.str i)) : x = .str i := by
  generalize hd : PyData.str i = d at h
  cases h with
  | of h => subst hd; exact h.strE
  | lst h r => cases hd
  | dic h r => simp [dictOf] at hd
theorem Pk.blE {x : V} {i : Bool} (h : Pk S F H x (.bool i)) : x = .bl i := by
  generalize hd : PyData.bool i = d at h
  cases h with
  | of h => subst hd; exact h.blE
  | lst h r => cases hd
  | dic h r => simp [dictOf] at hd
theorem Pk.nonE {x : V} (h : Pk S F H x .none) : x = .non := by
  generalize hd : PyData.none = d at h
  cases h with
  | of h => subst hd; exact h.nonE
  | lst h r => cases hd
  | dic h r => simp [dictOf] at hd
theorem PkAll.rp (e : Same F H) : ∀ {xs : List V} {ds : List PyData}, PkAll S F H xs ds → RpAll S H xs ds
  | _, _, .nil => .nil
  | _, _, .cons h r => .cons (h.rp e) (PkAll.rp e r)
theorem PkAll.one {xs : List V} {d : PyData} (h : PkAll S F H xs [d]) : ∃ x, xs = [x] ∧ Pk S F H x d := by
  cases h with
  | cons h r => cases r; exact ⟨_, rfl, h⟩
theorem PkAll.two {xs : List V} {d e : PyData} (h : PkAll S F H xs [d, e]) : ∃ x y, xs = [x, y] ∧ Pk S F H x d ∧ Pk S F H y e := by
  cases h with
  | cons h r =>
    obtain ⟨y, rfl, q⟩ := PkAll.one r
    exact ⟨_, _, rfl, h, q⟩
theorem PkAll.length : ∀ {xs : List V} {ds : List PyData}, PkAll S F H xs ds → xs.length = ds.length
  | _, _, .nil => rfl
  | _, _, .cons _ r => congrArg (· + 1) (PkAll.length r)

/-! ### the heap grows -/
structure Ext (H F H' F' : Hp) : Prop where
  hh : Same H H'
  ff : Same F F'
  fh : Same F' H'
  nw : ∀ b, F' b ≠ none → F b ≠ none ∨ H b = none
theorem Ext.refl (e : Same F H) : Ext H F H F := ⟨Same.refl _, Same.refl _, e, fun _ h => .inl h⟩
theorem Ext.trans {H1 F1 H2 F2 : Hp} (a : Ext H F H1 F1) (b : Ext H1 F1 H2 F2) : Ext H F H2 F2 :=
  ⟨a.hh.trans b.hh, a.ff.trans b.ff, b.fh, fun c h => by
    rcases b.nw c h with h | h
    · exact a.nw c h
    · exact .inr (a.hh.free h)⟩
theorem same_upd {p : Addr} {o : HO} (h : H p = none) : Same H (upd H p o) := fun b u q => by rw [upd_ne (ne_of_none q h)]; exact q
/-- a new object, closed -/
theorem Ext.new (e : Same F H) {p : Addr} (o : HO) (h : H p = none) : Ext H F (upd H p o) (upd F p o) := by
  refine ⟨same_upd h, same_upd (e.free h), fun b u q => ?_, fun b q => ?_⟩
  · by_cases hb : b = p
    · subst hb; rw [upd_same] at q ⊢; exact q
    · rw [upd_ne hb] at q ⊢; exact e _ _ q
  · by_cases hb : b = p
    · subst hb; exact .inr h
    · rw [upd_ne hb] at q; exact .inl q
/-- a new object, not closed -/
theorem Ext.raw (e : Same F H) {p : Addr} (o : HO) (h : H p = none) : Ext H F (upd H p o) F :=
  ⟨same_upd h, Same.refl _, e.trans (same_upd h), fun _ q => .inl q⟩
theorem Pk.ext {H' F' : Hp} (e : Ext H F H' F') {x : V} {d : PyData} (h : Pk S F H x d) : Pk S F' H' x d := by
  cases h with
  | of h => exact .of (h.mono e.ff)
  | lst h r => exact .lst (e.hh _ _ h) (r.mono e.ff)
  | dic h r => exact .dic (e.hh _ _ h) (r.mono e.ff)
end

/-! ### the slots -/
def SlotOk (S : Sx) (G H F : Hp) (v : Option (Option V)) : SV → Prop
  | .unb => True
  | .d x => ∃ u, v = some (some u) ∧ Rp S F u x
  | .lst ds => ∃ p xs, v = some (some (.ref p)) ∧ H p = some (.lst xs) ∧ RpAll S F xs ds ∧ F p = none ∧ G p = none
  | .dic kvs => ∃ p o, v = some (some (.ref p)) ∧ H p = some o ∧ DicR S F p o kvs ∧ F p = none ∧ G p = none
  | .obj _ _ => False
def ownS : SV → Bool
  | .lst _ => true
  | .dic _ => true
  | _ => false
structure Rel (S : Sx) (G F₀ : Hp) (σ : St) (H F : Hp) (ρ : Env) : Prop where
  gle : Same G H
  fle : Same F H
  new : ∀ b : Addr, G b ≠ none → F b ≠ none → F₀ b ≠ none
  old : Same F₀ F
  len : ρ.length = σ.length
  slot : ∀ (i : Nat) (s : SV), ρ[i]? = some s → SlotOk S G H F σ[i]? s
  apart : ∀ (i j : Nat) (p : Addr) (s t : SV), i ≠ j → ρ[i]? = some s → ρ[j]? = some t → ownS s = true → ownS t = true → σ[i]? = some (some (.ref p)) → σ[j]? = some (some (.ref p)) → False
section
variable {S : Sx} {G F₀ F F' H H' : Hp} {σ : St} {ρ : Env}
theorem SlotOk.own_at {v : Option (Option V)} {s : SV} (h : SlotOk S G H F v s) (o : ownS s = true) : ∃ p u, v = some (some (.ref p)) ∧ H p = some u ∧ F p = none ∧ G p = none := by
  cases s with
  | lst ds => obtain ⟨p, xs, e, h1, _, h2, h3⟩ := h; exact ⟨p, _, e, h1, h2, h3⟩
  | dic kvs => obtain ⟨p, o, e, h1, _, h2, h3⟩ := h; exact ⟨p, _, e, h1, h2, h3⟩
  | _ => cases o
theorem Rel.ext (R : Rel S G F₀ σ H F ρ) (e : Ext H F H' F') : Rel S G F₀ σ H' F' ρ := by
  refine ⟨R.gle.trans e.hh, e.fh, fun b g f => ?_, R.old.trans e.ff, R.len, fun i s hs => ?_, R.apart⟩
  · rcases e.nw b f with q | q
    · exact R.new b g q
    · cases z : G b with
      | none => exact absurd z g
      | some o => have := R.gle b o z; rw [q] at this; cases this
  · have := R.slot i s hs
    cases s with
    | unb => exact this
    | d x => obtain ⟨u, e1, h1⟩ := this; exact ⟨u, e1, h1.mono e.ff⟩
    | lst ds =>
      obtain ⟨p, xs, e1, h1, h2, h3, h4⟩ := this
      refine ⟨p, xs, e1, e.hh _ _ h1, h2.mono e.ff, ?_, h4⟩
      cases z : F' p with
      | none => rfl
      | some o =>
        rcases e.nw p (by rw [z]; simp) with q | q
        · exact absurd h3 q
        · rw [q] at h1; cases h1
    | dic kvs =>
      obtain ⟨p, xs, e1, h1, h2, h3, h4⟩ := this
      refine ⟨p, xs, e1, e.hh _ _ h1, h2.mono e.ff, ?_, h4⟩
      cases z : F' p with
      | none => rfl
      | some o =>
        rcases e.nw p (by rw [z]; simp) with q | q
        · exact absurd h3 q
        · rw [q] at h1; cases h1
    | obj _ _ => exact this
theorem Rel.lt (R : Rel S G F₀ σ H F ρ) {i : Nat} {s : SV} (h : ρ[i]? = some s) : i < σ.length := by
  rw [← R.len]; exact (List.getElem?_eq_some_iff.mp h).1
/-- a slot closed -/
theorem Rel.close (R : Rel S G F₀ σ H F ρ) {i : Nat} {s : SV} {x : PyData} (h : ρ[i]? = some s) (hx : slotD s = some x) :
    ∃ F' u, σ[i]? = some (some u) ∧ Same F F' ∧ Rp S F' u x ∧ Rel S G F₀ σ H F' (ρ.set i (.d x)) := by
  have hi : i < ρ.length := (List.getElem?_eq_some_iff.mp h).1
  have hs := R.slot i s h
  -- from the object p
  have go : ∀ (p : Addr) (o : HO), σ[i]? = some (some (.ref p)) → ownS s = true → H p = some o → F p = none → G p = none → Rp S (upd F p o) (.ref p) x →
      ∃ F' u, σ[i]? = some (some u) ∧ Same F F' ∧ Rp S F' u x ∧ Rel S G F₀ σ H F' (ρ.set i (.d x)) := by
    intro p o e1 os h1 h3 h4 r
    have ff : Same F (upd F p o) := same_upd h3
    refine ⟨upd F p o, .ref p, e1, ff, r, ⟨R.gle, fun b u q => ?_, fun b g f => ?_, R.old.trans ff, by simpa using R.len, fun j t ht => ?_, fun j k q t u hjk ht hu ot ou ej ek => ?_⟩⟩
    · by_cases hb : b = p
      · subst hb; rw [upd_same] at q; cases q; exact h1
      · rw [upd_ne hb] at q; exact R.fle _ _ q
    · by_cases hb : b = p
      · subst hb; exact absurd h4 g
      · rw [upd_ne hb] at f; exact R.new b g f
    · by_cases hj : j = i
      · subst hj
        rw [List.getElem?_set_self hi] at ht
        cases ht
        exact ⟨_, e1, r⟩
      · rw [List.getElem?_set_ne (Ne.symm hj)] at ht
        have z := R.slot j t ht
        cases t with
        | unb => exact z
        | d y => obtain ⟨u, e2, h2⟩ := z; exact ⟨u, e2, h2.mono ff⟩
        | lst es =>
          obtain ⟨q, ys, e2, k1, k2, k3, k4⟩ := z
          refine ⟨q, ys, e2, k1, k2.mono ff, ?_, k4⟩
          rw [upd_ne, k3]
          intro hq
          subst hq
          exact R.apart i j q s _ (Ne.symm hj) h ht os rfl e1 e2
        | dic es =>
          obtain ⟨q, ys, e2, k1, k2, k3, k4⟩ := z
          refine ⟨q, ys, e2, k1, k2.mono ff, ?_, k4⟩
          rw [upd_ne, k3]
          intro hq
          subst hq
          exact R.apart i j q s _ (Ne.symm hj) h ht os rfl e1 e2
        | obj _ _ => exact z
    · have back : ∀ {j : Nat} {t : SV}, (ρ.set i (.d x))[j]? = some t → ownS t = true → ρ[j]? = some t := by
        intro j t ht ot
        by_cases hj : j = i
        · subst hj
          rw [List.getElem?_set_self hi] at ht
          cases ht; cases ot
        · rwa [List.getElem?_set_ne (Ne.symm hj)] at ht
      exact R.apart j k q t u hjk (back ht ot) (back hu ou) ot ou ej ek
  cases s with
  | unb => simp [slotD] at hx
  | obj _ _ => simp [slotD] at hx
  | d y =>
    simp [slotD] at hx
    subst hx
    obtain ⟨u, e1, h1⟩ := hs
    refine ⟨F, u, e1, Same.refl _, h1, ?_⟩
    have e : ρ.set i (.d y) = ρ := by
      apply List.ext_getElem? 
      intro j
      by_cases hj : j = i
      · subst hj; rw [List.getElem?_set_self hi, h]
      · rw [List.getElem?_set_ne (Ne.symm hj)]
    rw [e]; exact R
  | lst ds =>
    simp [slotD] at hx
    subst hx
    obtain ⟨p, xs, e1, h1, h2, h3, h4⟩ := hs
    exact go p _ e1 rfl h1 h3 h4 (.lst (.inl (.inl upd_same)) (h2.mono (same_upd h3)))
  | dic kvs =>
    simp [slotD] at hx
    subst hx
    obtain ⟨p, o, e1, h1, h2, h3, h4⟩ := hs
    exact go p _ e1 rfl h1 h3 h4 (.ofDic upd_same (h2.mono (same_upd h3)))
/-- a slot set to data -/
theorem Rel.set (R : Rel S G F₀ σ H F ρ) {i : Nat} {u : V} {x : PyData} (r : Rp S F u x) : Rel S G F₀ (σ.set i (some u)) H F (ρ.set i (.d x)) := by
  refine ⟨R.gle, R.fle, R.new, R.old, by simpa using R.len, fun j t ht => ?_, fun j k q t v hjk ht hv ot ov ej ek => ?_⟩
  · by_cases hj : j = i
    · subst hj
      have hi : j < ρ.length := by
        have := (List.getElem?_eq_some_iff.mp ht).1
        simpa using this
      rw [List.getElem?_set_self hi] at ht
      cases ht
      rw [List.getElem?_set_self (by rw [← R.len]; exact hi)]
      exact ⟨u, rfl, r⟩
    · rw [List.getElem?_set_ne (Ne.symm hj)] at ht ⊢
      exact R.slot j t ht
  · have back : ∀ {j : Nat} {t : SV}, (ρ.set i (.d x))[j]? = some t → ownS t = true → ρ[j]? = some t ∧ j ≠ i := by
      intro j t ht ot
      by_cases hj : j = i
      · subst hj
        have hi : j < ρ.length := by
          have := (List.getElem?_eq_some_iff.mp ht).1
          simpa using this
        rw [List.getElem?_set_self hi] at ht
        cases ht; cases ot
      · rw [List.getElem?_set_ne (Ne.symm hj)] at ht
        exact ⟨ht, hj⟩
    obtain ⟨b1, n1⟩ := back ht ot
    obtain ⟨b2, n2⟩ := back hv ov
    rw [List.getElem?_set_ne (Ne.symm n1)] at ej
    rw [List.getElem?_set_ne (Ne.symm n2)] at ek
    exact R.apart j k q t v hjk b1 b2 ot ov ej ek
/-- a slot set to a new cell -/
theorem Rel.setOwn (R : Rel S G F₀ σ H F ρ) {i : Nat} {p : Addr} {s : SV} (os : ownS s = true) (r : ∀ v, v = some (some (V.ref p)) → SlotOk S G H F v s) (np : ∀ (j : Nat) (t : SV), ρ[j]? = some t → ownS t = true → σ[j]? ≠ some (some (V.ref p))) :
    Rel S G F₀ (σ.set i (some (.ref p))) H F (ρ.set i s) := by
  refine ⟨R.gle, R.fle, R.new, R.old, by simpa using R.len, fun j t ht => ?_, fun j k q t v hjk ht hv ot ov ej ek => ?_⟩
  · by_cases hj : j = i
    · subst hj
      have hi : j < ρ.length := by
        have := (List.getElem?_eq_some_iff.mp ht).1
        simpa using this
      rw [List.getElem?_set_self hi] at ht
      cases ht
      rw [List.getElem?_set_self (by rw [← R.len]; exact hi)]
      exact r _ rfl
    · rw [List.getElem?_set_ne (Ne.symm hj)] at ht ⊢
      exact R.slot j t ht
  · have back : ∀ {j : Nat} {t : SV}, (ρ.set i s)[j]? = some t → j ≠ i → ρ[j]? = some t := by
      intro j t ht hj
      rwa [List.getElem?_set_ne (Ne.symm hj)] at ht
    have atI : ∀ {j : Nat} {t : SV} {q : Addr}, (ρ.set i s)[j]? = some t → j = i → (σ.set i (some (.ref p)))[j]? = some (some (.ref q)) → q = p := by
      intro j t q ht hj e
      subst hj
      have hi : j < ρ.length := by
        have := (List.getElem?_eq_some_iff.mp ht).1
        simpa using this
      rw [List.getElem?_set_self (by rw [← R.len]; exact hi)] at e
      cases e; rfl
    by_cases h1 : j = i
    · have e1 := atI ht h1 ej
      subst e1
      have n2 : k ≠ i := fun e => hjk (h1.trans e.symm)
      rw [List.getElem?_set_ne (Ne.symm n2)] at ek
      exact np k v (back hv n2) ov ek
    · by_cases h2 : k = i
      · have e2 := atI hv h2 ek
        subst e2
        rw [List.getElem?_set_ne (Ne.symm h1)] at ej
        exact np j t (back ht h1) ot ej
      · rw [List.getElem?_set_ne (Ne.symm h1)] at ej
        rw [List.getElem?_set_ne (Ne.symm h2)] at ek
        exact R.apart j k q t v hjk (back ht h1) (back hv h2) ot ov ej ek
/-- a cell written -/
theorem Rel.write (R : Rel S G F₀ σ H F ρ) {i : Nat} {p : Addr} {s t : SV} {o : HO} (h : ρ[i]? = some s) (os : ownS s = true) (e : σ[i]? = some (some (.ref p))) (ot : ownS t = true)
    (r : SlotOk S G (upd H p o) F (some (some (.ref p))) t) : Rel S G F₀ σ (upd H p o) F (ρ.set i t) := by
  have hi : i < ρ.length := (List.getElem?_eq_some_iff.mp h).1
  obtain ⟨p', u, e', hp, fp, gp⟩ := (R.slot i s h).own_at os
  have ep : p' = p := by rw [e] at e'; cases e'; rfl
  subst ep
  refine ⟨fun b v q => ?_, fun b v q => ?_, R.new, R.old, by simpa using R.len, fun j v hv => ?_, fun j k q v w hjk hv hw ov ow ej ek => ?_⟩
  · have hb : b ≠ p' := fun z => by subst z; rw [gp] at q; cases q
    rw [upd_ne hb]; exact R.gle _ _ q
  · have hb : b ≠ p' := fun z => by subst z; rw [fp] at q; cases q
    rw [upd_ne hb]; exact R.fle _ _ q
  · by_cases hj : j = i
    · subst hj
      rw [List.getElem?_set_self hi] at hv
      cases hv
      rw [e]; exact r
    · rw [List.getElem?_set_ne (Ne.symm hj)] at hv
      have z := R.slot j v hv
      cases v with
      | unb => exact z
      | d y => exact z
      | lst es =>
        obtain ⟨q, ys, e2, k1, k2, k3, k4⟩ := z
        refine ⟨q, ys, e2, ?_, k2, k3, k4⟩
        rw [upd_ne, k1]
        intro hq
        subst hq
        exact R.apart i j q s _ (Ne.symm hj) h hv os rfl e e2
      | dic es =>
        obtain ⟨q, ys, e2, k1, k2, k3, k4⟩ := z
        refine ⟨q, ys, e2, ?_, k2, k3, k4⟩
        rw [upd_ne, k1]
        intro hq
        subst hq
        exact R.apart i j q s _ (Ne.symm hj) h hv os rfl e e2
      | obj _ _ => exact z
  · have back : ∀ {j : Nat} {v : SV}, (ρ.set i t)[j]? = some v → ownS v = true → ∃ v', ρ[j]? = some v' ∧ ownS v' = true := by
      intro j v hv ov
      by_cases hj : j = i
      · subst hj; exact ⟨s, h, os⟩
      · rw [List.getElem?_set_ne (Ne.symm hj)] at hv; exact ⟨v, hv, ov⟩
    obtain ⟨v', a1, a2⟩ := back hv ov
    obtain ⟨w', b1, b2⟩ := back hw ow
    exact R.apart j k q v' w' hjk a1 b1 a2 b2 ej ek
/-- slots forgotten -/
theorem Rel.drop (R : Rel S G F₀ σ H F ρ) {i : Nat} {v : Option V} : Rel S G F₀ (σ.set i v) H F (ρ.set i .unb) := by
  refine ⟨R.gle, R.fle, R.new, R.old, by simpa using R.len, fun j t ht => ?_, fun j k q t v hjk ht hv ot ov ej ek => ?_⟩
  · by_cases hj : j = i
    · subst hj
      have hi : j < ρ.length := by
        have := (List.getElem?_eq_some_iff.mp ht).1
        simpa using this
      rw [List.getElem?_set_self hi] at ht
      cases ht
      trivial
    · rw [List.getElem?_set_ne (Ne.symm hj)] at ht ⊢
      exact R.slot j t ht
  · have back : ∀ {j : Nat} {t : SV}, (ρ.set i .unb)[j]? = some t → ownS t = true → ρ[j]? = some t ∧ j ≠ i := by
      intro j t ht ot
      by_cases hj : j = i
      · subst hj
        have hi : j < ρ.length := by
          have := (List.getElem?_eq_some_iff.mp ht).1
          simpa using this
        rw [List.getElem?_set_self hi] at ht
        cases ht; cases ot
      · rw [List.getElem?_set_ne (Ne.symm hj)] at ht
        exact ⟨ht, hj⟩
    obtain ⟨b1, n1⟩ := back ht ot
    obtain ⟨b2, n2⟩ := back hv ov
    rw [List.getElem?_set_ne (Ne.symm n1)] at ej
    rw [List.getElem?_set_ne (Ne.symm n2)] at ek
    exact R.apart j k q _ _ hjk b1 b2 ot ov ej ek
theorem Rel.wipe (R : Rel S G F₀ σ H F ρ) : ∀ vs : List Nat, Rel S G F₀ (L2.wipe σ vs) H F (wipeE ρ vs)
  | [] => R
  | _ :: vs => (Rel.wipe R vs).drop
end
end VI
set_option Elab.async false
set_option linter.all false
set_option autoImplicit false
set_option maxRecDepth 20000
/-! Operations by values: the library's rules, told of data. -/
namespace VI
open PySem PySem.Spec PyProof.Rows L2

abbrev _root_.L2.Cx.sx (X : Cx) (W : WX) : Sx := ⟨X.prog, X.w, X.K, X.mg⟩

theorem most_line {n : Nat} (h : small n = true) : n ≤ sizeLine := by
  have h1 : n ≤ most := of_decide_eq_true h
  have h2 : most = 16000000 := rfl
  rw [sizeLine_eq]; omega
theorem most_line' {n : Nat} (h : small (n + 1) = true) : n < sizeLine := by
  have h1 : n + 1 ≤ most := of_decide_eq_true h
  have h2 : most = 16000000 := rfl
  rw [sizeLine_eq]; omega

/-- a two-place operation, told of data -/
def rOp (S : Sx) (f : PyData → PyData → Option PyData) : R2 := fun x y H Q => ∃ F dx dy r, Same F H ∧ Pk S F H x dx ∧ Pk S F H y dy ∧ f dx dy = some r ∧ ∀ z H' F', Ext H F H' F' → Rp S F' z r → Q z H'
def rTe (S : Sx) (f : PyData → PyData → Option Bool) : R2 := fun x y H Q => ∃ F dx dy r, Same F H ∧ Pk S F H x dx ∧ Pk S F H y dy ∧ f dx dy = some r ∧ Q (.bl r) H
def rCa (S : Sx) (f : List PyData → Option PyData) : List V → Hp → VK → Prop := fun xs H Q => ∃ F ds r, Same F H ∧ PkAll S F H xs ds ∧ f ds = some r ∧ ∀ z H' F', Ext H F H' F' → Rp S F' z r → Q z H'

section
variable {X : Cx} {W : WX}

/-! ### + - * // % ** -/
theorem o_add : OpR X (binaryOp .Add) (rOp (X.sx W) addD) := by
  rintro pins s σ H x y v u Q I rx ry ⟨F₁, dx, dy, r, e, hx, hy, hf, q⟩
  unfold addD at hf
  split at hf <;> try cases hf
  · have e1 := hx.intE; have e2 := hy.intE
    subst e1 e2
    exact op_add pins s σ H _ _ v u Q I rx ry ⟨_, _, rfl, rfl, q _ H F₁ (.refl e) (.int _)⟩
  · have e1 := hx.strE; have e2 := hy.strE
    subst e1 e2
    split at hf <;> cases hf
    rename_i hs
    exact op_add_str pins s σ H _ _ v u Q I rx ry ⟨_, _, rfl, rfl, most_line hs, q _ H F₁ (.refl e) (.str _)⟩
  · obtain ⟨a, xs, rfl, h1, r1⟩ := hx.lstE e
    obtain ⟨b, ys, rfl, h2, r2⟩ := hy.lstE e
    split at hf <;> cases hf
    rename_i hs
    obtain ⟨its, v1, ⟨⟨cls, dd, data, sl⟩, n, ho, hc, hdd, hd⟩, z1⟩ := I.list h1
    obtain ⟨its2, v2, ⟨⟨cls2, dd2, data2, sl2⟩, n2, ho2, hc2, hdd2, hd2⟩, z2⟩ := I.list h2
    simp only at hc hd hc2 hd2
    subst hc hd hc2 hd2
    cases rx; cases ry
    have l1 := v1.length; have l2 := v2.length; have l3 := r1.length; have l4 := r2.length
    have ea : its.toArray ++ its2.toArray = (its ++ its2).toArray := by simp
    refine concat_meets ⟨_, ho, rfl⟩ ⟨_, ho2, rfl⟩ noFill_list_add seq_list_add PySem.F.slot_list_add PySem.F.entry_list_add (PySem.F.args_list_add_2 _ _) (list_addW a b its.toArray its2.toArray n n2 dd dd2 sl sl2 (by rw [List.size_toArray, List.size_toArray]; have := most_line hs; omega)) ⟨ho, ho2, ?_⟩
    rw [ea]
    have hf : H s.heap.objs.size = none := I.hok.fresh (Nat.le_refl _)
    refine ⟨.ref _, _, I.lnew (t' := s.toks) (v1.append v2) (by rw [List.length_append]; have := most_line hs; omega), rfl, q _ _ _ (.new e _ hf) (.lst (.inl (.inl upd_same)) ?_)⟩
    exact (r1.append r2).mono (same_upd (e.free hf))
  · obtain ⟨a, xs, rfl, h1, r1⟩ := hx.tupE e
    obtain ⟨b, ys, rfl, h2, r2⟩ := hy.tupE e
    split at hf <;> cases hf
    rename_i hs
    have l3 := r1.length; have l4 := r2.length
    refine op_catA pins s σ H _ _ v u Q I rx ry ⟨a, b, xs, ys, rfl, rfl, SqT.same e h1, SqT.same e h2, by have := most_line hs; omega, fun h => ?_, fun h h' => ?_, fun h h' p hp => ?_⟩
    · subst h
      cases r1
      exact q _ H F₁ (.refl e) (.tup h2 (by simpa using r2))
    · subst h'
      cases r2
      exact q _ H F₁ (.refl e) (.tup h1 (by simpa using r1))
    · exact q _ _ _ (.new e _ hp) (.tup (.inl (.inl upd_same)) ((r1.append r2).mono (same_upd (e.free hp))))
theorem o_sub : OpR X (binaryOp .Sub) (rOp (X.sx W) subD) := by
  rintro pins s σ H x y v u Q I rx ry ⟨F₁, dx, dy, r, e, hx, hy, hf, q⟩
  unfold subD at hf
  split at hf <;> try cases hf
  have e1 := hx.intE; have e2 := hy.intE
  subst e1 e2
  exact op_sub pins s σ H _ _ v u Q I rx ry ⟨_, _, rfl, rfl, q _ H F₁ (.refl e) (.int _)⟩
theorem mulOk_ok {i j : Int} (h : mulOk i j = true) : IntMulOk i j := by
  have h3 : i.natAbs.log2 + j.natAbs.log2 < 100000000 := of_decide_eq_true h
  have b : ∀ x : Int, Builtin.Int.intBits x ≤ x.natAbs.log2 + 1 := fun x => by
    unfold Builtin.Int.intBits
    split <;> omega
  have h1 := b i
  have h2 := b j
  have e : bitsLine = 134217728 := by decide
  unfold IntMulOk
  intro z
  rw [Bool.and_eq_true] at z
  have z3 := of_decide_eq_true (p := _ > _) z.2
  rw [e] at z3
  omega
theorem o_mulI : OpR X (binaryOp .Mult) (rI (fun i j => mulOk i j = true) fun i j => .int (i * j)) := opI fun _ _ _ _ _ _ _ hc q => mul_int q (mulOk_ok hc)
theorem q_mulI (l : Addr) (items : Array Value) (n : Nat) (d : Option Addr) (sl : Array (Option Value)) (x : Int) (u : Tok) (hc0 : ¬(!Builtin.List.listFitsIndex x) = true) (hc1 : ¬items.size * x.toNat > (2 ^ 63 - 1) / 8) (hc2 : ¬Builtin.List.listTooLong (items.size * x.toNat) = true) :
    Meets (Builtin.«list.__mul__» ⟨[.ref l, .int x u], []⟩) (fun _ R s => s.heap.get? l = some { cls := .type "list", dict := d, data := .seq items n, slots := sl } ∧ R (.ok (.ret (Value.ref s.heap.objs.size))) { s with heap := s.heap.push { cls := Value.type "list", data := Data.seq (List.foldl (fun x1 x2 => x1 ++ x2) #[] (List.replicate (if items.isEmpty = true then 0 else x.toNat) items)) }, toks := s.toks }) :=
  .of_wp fun prog w A R s h => by
    obtain ⟨hp, g, d, tk, os⟩ := s; obtain ⟨hl, h⟩ := h
    have hsz := AutoListH.joined_fits hc2
    wp_walk; refine wpAny_ite_false (decide_eq_false (Nat.not_lt.mpr hsz)) ?_; wp_walk; exact ⟨_, rfl, h⟩
theorem q_rmulI (a : Int) (t : Tok) (l : Addr) (items : Array Value) (n : Nat) (d : Option Addr) (sl : Array (Option Value)) :
    Meets (Builtin.«int.__rmul__» ⟨[.int a t, .ref l], []⟩) (fun _ R s => s.heap.get? l = some { cls := .type "list", dict := d, data := .seq items n, slots := sl } ∧ R (.ok (.ret Value.notImplemented)) s) :=
  .of_wp fun prog w A R s h => by obtain ⟨hp, g, d, tk, os⟩ := s; obtain ⟨hl, h⟩ := h; wp_walk; exact ⟨_, rfl, h⟩
/-- xs * k, any list -/
theorem op_repS : OpR X (binaryOp .Mult) (fun x y H Q => ∃ a xs k, x = V.ref a ∧ y = V.int k ∧ SqL X.K H a xs ∧ (0 ≤ k ∧ k ≤ 1000000) ∧ xs.length * k.toNat ≤ sizeLine ∧ ∀ p, H p = none → Q (.ref p) (upd H p (.lst (List.replicate k.toNat xs).flatten))) := by
  intro pins s σ H x y v u Q I rx ry h
  obtain ⟨a, xs, k, rfl, rfl, hs, ⟨k0, k1⟩, hz, q⟩ := h
  obtain rfl : v = Value.ref a := rx
  obtain ⟨t, rfl⟩ := ry
  obtain ⟨its, rv, ⟨⟨cls, dd, data, sl⟩, n, ho, hc, hdn, hd⟩, hlen⟩ := I.list hs
  have hc1 : cls = Value.type "list" := hc
  have hd1 : data = Data.seq its.toArray n := hd
  subst hc1 hd1
  have hlz : its.toArray.size * k.toNat ≤ sizeLine := by rw [List.size_toArray, ← rv.length]; exact hz
  have hcap : ¬ its.toArray.size * k.toNat > (2 ^ 63 - 1) / 8 := by
    have : (sizeLine : Nat) ≤ (2 ^ 63 - 1) / 8 := by decide
    omega
  have hfit : ¬ (!Builtin.List.listFitsIndex k) = true := by
    rw [fitsIndex_both (by omega) (by omega)]
    exact Bool.false_ne_true
  have hlong : ¬ Builtin.List.listTooLong (its.toArray.size * k.toNat) = true := by
    rw [notLongL hlz]
    exact Bool.false_ne_true
  have hnew : List.foldl (fun x1 x2 => x1 ++ x2) #[] (List.replicate (if its.toArray.isEmpty = true then 0 else k.toNat) its.toArray) = (List.replicate k.toNat its).flatten.toArray := by
    have f0 : ∀ m : Nat, List.foldl (fun x1 x2 => x1 ++ x2) #[] (List.replicate m its.toArray) = (List.replicate m its).flatten.toArray := fun m => by
      have := foldl_rep its m []
      rw [List.nil_append] at this
      exact this
    rw [f0]
    cases its with
    | nil => simp
    | cons a r' => rw [if_neg (by simp)]
  refine wpAny_binaryOp_repeat_ref (T := "list") (U := "int") (by decide) ⟨_, ho, rfl⟩ (fun s' => typeIs_int s' k t) noFill_list_mul F.fills_int_mul F.slot_int_rmul repeat_list F.slot_int_index.lookup
    (call_meets F.slot_int_rmul (typeIs_int s k t) F.entry_int_rmul (F.args_int_rmul_2 _ _) (q_rmulI k t a its.toArray n dd sl)
      ⟨ho, rfl, ⟨_, ho, rfl⟩, call_meets F.slot_list_mul ⟨_, ho, rfl⟩ F.entry_list_mul (F.args_list_mul_2 _ _) (q_mulI a its.toArray n dd sl k t hfit hcap hlong) ⟨ho, ?_⟩⟩)
  rw [hnew]
  exact ⟨.ref _, _, I.lnew (t' := s.toks) (rv.rep k.toNat) (by rw [PyProof.Rows.lm_len_rep_flat, Nat.mul_comm]; exact hz), rfl, q _ I.fresh⟩
theorem o_mul : OpR X (binaryOp .Mult) (rOp (X.sx W) mulD) := by
  rintro pins s σ H x y v u Q I rx ry ⟨F₁, dx, dy, r, e, hx, hy, hf, q⟩
  unfold mulD at hf
  split at hf <;> try cases hf
  · have e1 := hx.intE; have e2 := hy.intE
    subst e1 e2
    split at hf <;> cases hf
    rename_i hs
    exact o_mulI pins s σ H _ _ v u Q I rx ry ⟨_, _, rfl, rfl, hs, q _ H F₁ (.refl e) (.int _)⟩
  · have e2 := hy.intE
    subst e2
    obtain ⟨a, xs, rfl, hs, ra⟩ := hx.lstE e
    split at hf <;> cases hf
    rename_i hc
    rw [Bool.and_eq_true, Bool.and_eq_true, decide_eq_true_eq, decide_eq_true_eq] at hc
    exact op_repS pins s σ H _ _ v u Q I rx ry ⟨a, xs, _, rfl, rfl, hs, ⟨hc.1.2, hc.2⟩, by rw [ra.length]; exact most_line hc.1.1, fun p hp => q _ _ _ (.new e _ hp) (.lst (.inl (.inl upd_same)) ((ra.rep _).mono (same_upd (e.free hp))))⟩
theorem o_fdiv : OpR X (binaryOp .FloorDiv) (rOp (X.sx W) fdivD) := by
  rintro pins s σ H x y v u Q I rx ry ⟨F₁, dx, dy, r, e, hx, hy, hf, q⟩
  unfold fdivD at hf
  split at hf <;> try cases hf
  have e1 := hx.intE; have e2 := hy.intE
  subst e1 e2
  split at hf <;> cases hf
  rename_i hs
  simp only [divOk, Bool.and_eq_true, decide_eq_true_eq] at hs
  exact op_fdivW pins s σ H _ _ v u Q I rx ry ⟨_, _, rfl, rfl, hs, q _ H F₁ (.refl e) (.int _)⟩
theorem o_mod : OpR X (binaryOp .Mod) (rOp (X.sx W) modD) := by
  rintro pins s σ H x y v u Q I rx ry ⟨F₁, dx, dy, r, e, hx, hy, hf, q⟩
  unfold modD at hf
  split at hf <;> try cases hf
  have e1 := hx.intE; have e2 := hy.intE
  subst e1 e2
  split at hf <;> cases hf
  rename_i hs
  exact op_mod pins s σ H _ _ v u Q I rx ry ⟨_, _, rfl, rfl, hs, q _ H F₁ (.refl e) (.int _)⟩
theorem o_pow : OpR X (binaryOp .Pow) (rOp (X.sx W) powD) := by
  rintro pins s σ H x y v u Q I rx ry ⟨F₁, dx, dy, r, e, hx, hy, hf, q⟩
  unfold powD at hf
  split at hf <;> try cases hf
  have e1 := hx.intE; have e2 := hy.intE
  subst e1 e2
  split at hf <;> cases hf
  rename_i hs
  simp only [pow2ok, Bool.and_eq_true, decide_eq_true_eq] at hs
  exact op_pow pins s σ H _ _ v u Q I rx ry ⟨_, _, rfl, rfl, ⟨hs.1.1, hs.1.2, hs.2⟩, q _ H F₁ (.refl e) (.int _)⟩

/-! ### comparisons -/
mutual
theorem Rp.dp {S : Sx} {F : Hp} : ∀ {v : V} {d : PyData}, Rp S F v d → d.canLay0 = true → Dp S.K F v d
  | _, _, .non, _ => .non
  | _, _, .bl b, _ => .bl b
  | _, _, .int i, _ => .int i
  | _, _, .str x, _ => .str x
  | _, _, .lst h r, c => .lst h (RpAll.dp r (by simpa [PyData.canLay0] using c))
  | _, _, .tup h r, c => .tup h (RpAll.dp r (by simpa [PyData.canLay0] using c))
  | _, _, .dicK h r n q, c => by subst q; simp [dictOf, PyData.canLay0] at c
  | _, _, .dicT h r n q, c => by subst q; simp [dictOf, PyData.canLay0] at c
theorem RpAll.dp {S : Sx} {F : Hp} : ∀ {vs : List V} {ds : List PyData}, RpAll S F vs ds → PyData.canLayAll0 ds = true → DpAll S.K F vs ds
  | _, _, .nil, _ => .nil
  | _, _, .cons h r, c => by
    simp only [PyData.canLayAll0, Bool.and_eq_true] at c
    exact .cons (h.dp c.1) (RpAll.dp r c.2)
end
theorem lay_of {d : PyData} (h : SeqAt.shaped d = true) : d.canLay0 = true := by
  unfold SeqAt.shaped at h
  rw [Bool.and_eq_true] at h
  exact h.1
theorem eqD_some {dx dy : PyData} {r : Bool} (h : eqD dx dy = some r) : SeqAt.shaped dx = true ∧ SeqAt.shaped dy = true ∧ r = PyData.eqv dx dy := by
  unfold eqD at h
  split at h
  · rename_i hs
    rw [Bool.and_eq_true] at hs
    cases h
    exact ⟨hs.1, hs.2, rfl⟩
  · cases h
variable {S : Sx}
theorem o_eq (hu : X.A.units + 64 < cLine) : OpR X (compareOp .Eq) (rTe (X.sx W) (cmpD .eq)) := by
  rintro pins s σ H x y v u Q I rx ry ⟨F₁, dx, dy, r, e, hx, hy, hf, q⟩
  obtain ⟨s1, s2, rfl⟩ := eqD_some (show eqD dx dy = some r from hf)
  exact op_eqD hu pins s σ H _ _ v u Q I rx ry ⟨dx, dy, (hx.rp e).dp (lay_of s1), (hy.rp e).dp (lay_of s2), s1, s2, q⟩
theorem o_ne (hu : X.A.units + 64 < cLine) : OpR X (compareOp .NotEq) (rTe (X.sx W) (cmpD .ne)) := by
  rintro pins s σ H x y v u Q I rx ry ⟨F₁, dx, dy, r, e, hx, hy, hf, q⟩
  obtain ⟨r', h1, rfl⟩ := Option.map_eq_some_iff.mp (show (eqD dx dy).map (!·) = some r from hf)
  obtain ⟨s1, s2, rfl⟩ := eqD_some h1
  exact op_neD hu pins s σ H _ _ v u Q I rx ry ⟨dx, dy, (hx.rp e).dp (lay_of s1), (hy.rp e).dp (lay_of s2), s1, s2, q⟩
theorem intC_some {p : Int → Int → Bool} {dx dy : PyData} {r : Bool} (h : intC p dx dy = some r) : ∃ i j, dx = .int i ∧ dy = .int j ∧ r = p i j := by
  unfold intC at h
  split at h
  · cases h; exact ⟨_, _, rfl, rfl, rfl⟩
  · cases h
theorem o_lt : OpR X (compareOp .Lt) (rTe (X.sx W) (cmpD .lt)) := by
  rintro pins s σ H x y v u Q I rx ry ⟨F₁, dx, dy, r, e, hx, hy, hf, q⟩
  obtain ⟨i, j, rfl, rfl, rfl⟩ := intC_some (p := fun i j => decide (i < j)) hf
  have e1 := hx.intE; have e2 := hy.intE
  subst e1 e2
  exact op_lt pins s σ H _ _ v u Q I rx ry ⟨_, _, rfl, rfl, q⟩
theorem o_le : OpR X (compareOp .LtE) (rTe (X.sx W) (cmpD .le)) := by
  rintro pins s σ H x y v u Q I rx ry ⟨F₁, dx, dy, r, e, hx, hy, hf, q⟩
  obtain ⟨i, j, rfl, rfl, rfl⟩ := intC_some (p := fun i j => decide (i ≤ j)) hf
  have e1 := hx.intE; have e2 := hy.intE
  subst e1 e2
  exact op_le pins s σ H _ _ v u Q I rx ry ⟨_, _, rfl, rfl, q⟩
theorem o_gt : OpR X (compareOp .Gt) (rTe (X.sx W) (cmpD .gt)) := by
  rintro pins s σ H x y v u Q I rx ry ⟨F₁, dx, dy, r, e, hx, hy, hf, q⟩
  obtain ⟨i, j, rfl, rfl, rfl⟩ := intC_some (p := fun i j => decide (j < i)) hf
  have e1 := hx.intE; have e2 := hy.intE
  subst e1 e2
  exact op_gt pins s σ H _ _ v u Q I rx ry ⟨_, _, rfl, rfl, q⟩
theorem o_ge : OpR X (compareOp .GtE) (rTe (X.sx W) (cmpD .ge)) := by
  rintro pins s σ H x y v u Q I rx ry ⟨F₁, dx, dy, r, e, hx, hy, hf, q⟩
  obtain ⟨i, j, rfl, rfl, rfl⟩ := intC_some (p := fun i j => decide (j ≤ i)) hf
  have e1 := hx.intE; have e2 := hy.intE
  subst e1 e2
  exact op_ge pins s σ H _ _ v u Q I rx ry ⟨_, _, rfl, rfl, q⟩
theorem isD_some {dx dy : PyData} {r : Bool} (h : isD dx dy = some r) : (∃ a b, dx = .bool a ∧ dy = .bool b ∧ r = decide (a = b)) ∨ (dy = .none ∧ (r = true ↔ dx = .none) ∧ ∀ kvs, dx ≠ .dict kvs) := by
  unfold isD at h
  split at h <;> cases h
  · exact .inl ⟨_, _, rfl, rfl, rfl⟩
  all_goals exact .inr ⟨rfl, by simp, fun _ z => by cases z⟩
theorem Pk.non_iff {F H : Hp} (e : Same F H) {x : V} {d : PyData} (h : Pk S F H x d) : decide (x = .non) = true ↔ d = .none := by
  rw [decide_eq_true_eq]
  constructor
  · rintro rfl
    cases h with
    | of h => cases h; rfl
  · rintro rfl
    exact h.nonE
theorem o_is : OpR X (compareOp .Is) (rTe (X.sx W) (cmpD .is)) := by
  rintro pins s σ H x y v u Q I rx ry ⟨F₁, dx, dy, r, e, hx, hy, hf, q⟩
  rcases isD_some (show isD dx dy = some r from hf) with ⟨a, b, rfl, rfl, rfl⟩ | ⟨rfl, h1, _⟩
  · have e1 := hx.blE; have e2 := hy.blE
    subst e1 e2
    exact op_isBl pins s σ H _ _ v u Q I rx ry ⟨_, _, rfl, rfl, q⟩
  · have e2 := hy.nonE
    subst e2
    refine op_isN pins s σ H _ _ v u Q I rx ry ⟨rfl, ?_⟩
    have e3 : decide (x = .non) = r := by
      rw [Bool.eq_iff_iff, hx.non_iff e, h1]
    rw [e3]; exact q
theorem o_isNot : OpR X (compareOp .IsNot) (rTe (X.sx W) (cmpD .isNot)) := by
  rintro pins s σ H x y v u Q I rx ry ⟨F₁, dx, dy, r, e, hx, hy, hf, q⟩
  obtain ⟨r', h0, rfl⟩ := Option.map_eq_some_iff.mp (show (isD dx dy).map (!·) = some r from hf)
  rcases isD_some h0 with ⟨a, b, rfl, rfl, rfl⟩ | ⟨rfl, h1, _⟩
  · have e1 := hx.blE; have e2 := hy.blE
    subst e1 e2
    exact op_notBl pins s σ H _ _ v u Q I rx ry ⟨_, _, rfl, rfl, q⟩
  · have e2 := hy.nonE
    subst e2
    refine op_notN pins s σ H _ _ v u Q I rx ry ⟨rfl, ?_⟩
    have e3 : decide (x = .non) = r' := by
      rw [Bool.eq_iff_iff, hx.non_iff e, h1]
    rw [e3]; exact q

/-! ### dicts: what is found -/
theorem RpK.look {F : Hp} : ∀ {ks : List (Key × V)} {kvs : List (NK × PyData)}, RpK S F ks kvs → ∀ k : Key,
    (∀ d, dLook kvs (nkOf k) = some d → ∃ v, valV ks k = some v ∧ Rp S F v d) ∧ (dLook kvs (nkOf k) = none → valV ks k = none)
  | _, _, .nil, k => ⟨fun d h => by simp [dLook] at h, fun _ => rfl⟩
  | _, _, @RpK.cons _ _ k' v r _ d' r' e h q, k => by
    subst e
    have ih := RpK.look q k
    have inj : nkOf k' = nkOf k ↔ k' = k := by
      constructor
      · intro z
        cases k' <;> cases k <;> simp [nkOf] at z <;> simp [z]
      · rintro rfl; rfl
    by_cases hk : k' = k
    · subst hk
      have e1 : dLook ((nkOf k', d') :: r') (nkOf k') = some d' := by simp [dLook]
      have e2 : valV ((k', v) :: r) k' = some v := by simp [valV]
      rw [e1, e2]
      exact ⟨fun d z => ⟨v, rfl, by cases z; exact h⟩, fun z => by cases z⟩
    · have hn : nkOf k' ≠ nkOf k := fun z => hk (inj.mp z)
      have e1 : dLook ((nkOf k', d') :: r') (nkOf k) = dLook r' (nkOf k) := by simp [dLook, hn]
      have e2 : valV ((k', v) :: r) k = valV r k := by simp [valV, hk]
      rw [e1, e2]
      exact ih
theorem RpT.look {F : Hp} : ∀ {ks : List (NK × Addr × V)} {kvs : List (NK × PyData)}, RpT S F ks kvs → ∀ {xs : List (NK × Addr × Value)},
    Paired (fun (p : NK × Addr × V) (q : NK × Addr × Value) => p.1 = q.1 ∧ p.2.1 = q.2.1 ∧ RelV p.2.2 q.2.2) ks xs → ∀ k : NK,
    (∀ d, dLook kvs k = some d → ∃ b v u, atKey xs k = some (b, u) ∧ RelV v u ∧ Rp S F v d) ∧ (dLook kvs k = none → atKey xs k = none)
  | _, _, .nil, _, .nil, k => ⟨fun d h => by simp [dLook] at h, fun _ => rfl⟩
  | _, _, @RpT.cons _ _ k' b v r d' r' ok hb h q, _, .cons (b := (k2, b2, u2)) z zs, k => by
    obtain ⟨z1, z2, z3⟩ := z
    simp only at z1 z2 z3
    subst z1 z2
    have ih := RpT.look q zs k
    by_cases hk : k' = k
    · subst hk
      have e1 : dLook ((k', d') :: r') k' = some d' := by simp [dLook]
      rw [e1]
      exact ⟨fun d z => ⟨b, v, u2, by simp [atKey], z3, by cases z; exact h⟩, fun z => by cases z⟩
    · have e1 : dLook ((k', d') :: r') k = dLook r' k := by simp [dLook, hk]
      rw [e1]
      have e2 : ∀ rest : List (NK × Addr × Value), atKey ((k', b, u2) :: rest) k = atKey rest k := fun rest => by simp [atKey, hk]
      rw [e2]
      exact ih
theorem RpT.okAll {F : Hp} : ∀ {ks : List (NK × Addr × V)} {kvs : List (NK × PyData)}, RpT S F ks kvs → ∀ p ∈ ks, okKey p.1 = true ∧ Rp S F (.ref p.2.1) p.1.data
  | _, _, .nil, p, h => by simp at h
  | _, _, .cons ok hb h q, p, hp => by
    rcases List.mem_cons.mp hp with rfl | hp
    · exact ⟨ok, hb⟩
    · exact RpT.okAll q p hp
mutual
theorem nested_of {pins : List (Addr × Obj)} {σ : L2.St} {H : Hp} {s : Shared} (I : Inv X pins σ H s) : ∀ (k : NK) (v : V) (u : Value), Rp (X.sx W) H v k.data → RelV v u → NestedIs s.heap k u
  | .none, v, u, h, r => by
    have := Rp.nonE (by simpa [NestedKey.data] using h)
    subst this; cases r; exact .none
  | .num i, v, u, h, r => by
    have := Rp.intE (i := i) (by simpa [NestedKey.data] using h)
    subst this; obtain ⟨t, rfl⟩ := r; exact .int _ _
  | .text x, v, u, h, r => by
    have := Rp.strE (i := x) (by simpa [NestedKey.data] using h)
    subst this; obtain ⟨t, rfl⟩ := r; exact .text _ _
  | .tup ks, v, u, h, r => by
    obtain ⟨a, xs, rfl, h1, h2⟩ := Rp.tupE (ds := NestedKey.datas ks) (by simpa [NestedKey.data] using h)
    cases r
    obtain ⟨its, rv, ⟨o, ho, hc, n, hd⟩, _⟩ := I.tuple h1
    exact .tup ho hc hd (by simpa using nesteds_of I ks xs its h2 rv)
theorem nesteds_of {pins : List (Addr × Obj)} {σ : L2.St} {H : Hp} {s : Shared} (I : Inv X pins σ H s) : ∀ (ks : List NK) (vs : List V) (us : List Value), RpAll (X.sx W) H vs (NestedKey.datas ks) → Vals vs us → NestedAll s.heap ks us
  | [], _, _, h, r => by
    simp only [NestedKey.datas] at h
    cases h; cases r; exact .nil
  | k :: ks, _, _, h, r => by
    simp only [NestedKey.datas] at h
    cases h with
    | cons h1 h2 =>
      cases r with
      | cons r1 r2 => exact .cons (nested_of I k _ _ h1 r1) (nesteds_of I ks _ _ h2 r2)
end
theorem okKey_depth {k : NK} (h : okKey k = true) : k.depth ≤ 8 := by
  cases k with
  | tup ks => exact of_decide_eq_true h
  | _ => cases h
end
end VI
set_option Elab.async false
set_option linter.all false
set_option autoImplicit false
set_option maxRecDepth 20000
/-! Dicts: what is found in them, what is put. -/
namespace VI
open PySem PySem.Spec PyProof.Rows L2

section
variable {X : Cx} {W : WX} {pins : List (Addr × Obj)} {σ : L2.St} {H : Hp} {s : Shared} {a : Addr} {A : Around} {E : Value → Shared → Prop}

/-- the raw object of a dict whose keys are tuples -/
theorem raw_at (I : Inv X pins σ H s) {ks : List (NK × Addr × V)} (h : H a = some (.ext (rawT X.prog X.w a ks))) : rawT X.prog X.w a ks s.heap := (I.hok a _ h).1
theorem raw_of {kvs : List (NK × PyData)} {F : Hp} {ks : List (NK × Addr × V)} (I : Inv X pins σ H s) (e : Same F H) (h : rawT X.prog X.w a ks s.heap) (r : RpT (X.sx W) F ks kvs) :
    ks.length ≤ sizeLine ∧ (a == sysModules) = false ∧ ∃ xs, Paired (fun (p : NK × Addr × V) (q : NK × Addr × Value) => p.1 = q.1 ∧ p.2.1 = q.2.1 ∧ RelV p.2.2 q.2.2) ks xs ∧ s.heap.DictOfH (nestedKind X.prog X.w) a xs := by
  obtain ⟨z, hd, xs, pr, o, es, ep, h1, h2, h3, h4, h5⟩ := h
  refine ⟨z, hd, xs, pr, o, es, ep, h1, h2, h3, h4, fun x hx => ?_, h5⟩
  obtain ⟨i, hi⟩ := List.getElem?_of_mem hx
  have hz : ∀ {l1 : List (NK × Addr × V)} {l2 : List (NK × Addr × Value)}, Paired (fun (p : NK × Addr × V) (q : NK × Addr × Value) => p.1 = q.1 ∧ p.2.1 = q.2.1 ∧ RelV p.2.2 q.2.2) l1 l2 → x ∈ l2 → ∃ p ∈ l1, p.1 = x.1 ∧ p.2.1 = x.2.1 := by
    intro l1 l2 q
    induction q with
    | nil => intro h; simp at h
    | cons r _ ih =>
      intro h
      rcases List.mem_cons.mp h with rfl | h
      · exact ⟨_, List.mem_cons_self, r.1, r.2.1⟩
      · obtain ⟨p, h1, h2⟩ := ih h
        exact ⟨p, List.mem_cons_of_mem _ h1, h2⟩
  obtain ⟨p, hp, e1, e2⟩ := hz pr hx
  obtain ⟨ok, rb⟩ := r.okAll p hp
  rw [← e1, ← e2]
  exact ⟨nested_of I p.1 (.ref p.2.1) _ (rb.mono e) rfl, okKey_depth ok⟩
theorem key_at (I : Inv X pins σ H s) {k : NK} {y : V} {u : Value} (ok : okKey k = true) (r : Rp (X.sx W) H y k.data) (ry : RelV y u) : ∃ b, y = .ref b ∧ u = .ref b ∧ (nestedKind X.prog X.w).is s.heap k b := by
  cases k with
  | tup ks =>
    have n := nested_of I _ y u r ry
    obtain ⟨b, xs, rfl, _, _⟩ := Rp.tupE (ds := NestedKey.datas ks) (by simpa [NestedKey.data] using r)
    cases ry
    exact ⟨b, rfl, rfl, n, okKey_depth ok⟩
  | _ => cases ok
theorem room8 (hu : A.units + 64 < cLine) : (nestedKind X.prog X.w).room A.in1 := by
  show A.in1.units + 8 < cLine
  rw [Around.in1_units]
  omega
/-- an empty dict told as one of the other make -/
theorem retag (I : Inv X pins σ H s) (h : H a = some (.dK [])) : Inv X pins σ (upd H a (.ext (rawT X.prog X.w a []))) s := by
  obtain ⟨z, hd, vs, kv, o, es, ep, h1, h2, h3, h4, h5⟩ := I.hok a _ h
  cases kv
  have h4 : es = #[] := by
    obtain ⟨l⟩ := es
    obtain ⟨h6, _⟩ := h5
    cases l with
    | nil => rfl
    | cons x l => cases h6
  have := I.write (x := a) (e := a) (o := .ext (rawT X.prog X.w a [])) (h' := s.heap) (t' := s.toks) (by rw [h]; trivial) (.inl rfl) (fun _ _ _ q => q) ⟨_, h1⟩
    ⟨⟨by simp, hd, [], .nil, o, es, ep, h1, h2, h3, by simpa using h4, by simp⟩, ⟨_, h1⟩, fun h1' h2' p q => by
      obtain ⟨p1, p2, xs, p3, o', es', ep', g1, g2⟩ := p
      exact ⟨p1, p2, xs, p3, o', es', ep', q _ g1, g2⟩⟩
  exact this
theorem ext_stay {ks : List (NK × Addr × V)} {h1 h2 : Heap} (p : rawT X.prog X.w a ks h1) (q : ∀ o, h1.get? a = some o → h2.get? a = some o) : rawT X.prog X.w a ks h2 := by
  obtain ⟨p1, p2, xs, p3, o', es', ep', g1, g2⟩ := p
  exact ⟨p1, p2, xs, p3, o', es', ep', q _ g1, g2⟩
theorem untag (I : Inv X pins σ (upd H a (.ext (rawT X.prog X.w a []))) s) (h : H a = some (.dK [])) : Inv X pins σ H s := by
  obtain ⟨p1, p2, xs, p3, o, es, ep, h1, h2, h3, h4, h5⟩ := raw_at I upd_same
  cases p3
  have := I.write (x := a) (e := a) (o := .dK []) (h' := s.heap) (t' := s.toks) (by rw [upd_same]; trivial) (.inl rfl) (fun _ _ _ q => q) ⟨_, h1⟩
    ⟨by simp, p2, [], .nil, o, es, ep, h1, h2, h3, by rw [show es = #[] by simpa using h4]; exact fun _ z => by simp at z, by rw [show es = #[] by simpa using h4]; exact ⟨.nil, by simp⟩⟩
  have e : upd (upd H a (.ext (rawT X.prog X.w a []))) a (.dK []) = H := by
    funext b
    by_cases hb : b = a
    · subst hb; rw [upd_same, h]
    · rw [upd_ne hb, upd_ne hb]
  rw [e] at this
  exact this

/-- what is known of a dict and a key: the one make or the other -/
theorem dic_cases {F : Hp} {o : HO} {kvs : List (NK × PyData)} {k : NK} (h : H a = some o) (r : DicR (X.sx W) F a o kvs) (kk : kindOk kvs k = true) :
    (∃ ks k', H a = some (.dK ks) ∧ RpK (X.sx W) F ks kvs ∧ (kvs.map (·.1)).Nodup ∧ nkOf k' = k) ∨
    (okKey k = true ∧ ∃ ks, H a = some (.ext (rawT X.prog X.w a ks)) ∧ RpT (X.sx W) F ks kvs ∧ kvs ≠ []) ∨
    (okKey k = true ∧ kvs = [] ∧ H a = some (.dK [])) := by
  have flat : isTupK k = false → (kvs.all fun p => !isTupK p.1) = true → ∀ k', nkOf k' = k → (∃ ks k', H a = some (.dK ks) ∧ RpK (X.sx W) F ks kvs ∧ (kvs.map (·.1)).Nodup ∧ nkOf k' = k) := by
    intro _ ha k' e
    rcases r with ⟨ks, rfl, r, n⟩ | ⟨ks, rfl, r, n⟩
    · exact ⟨ks, k', h, r, n, e⟩
    · cases r with
      | nil => exact absurd rfl n
      | cons ok _ _ _ =>
        simp only [List.all_cons, Bool.and_eq_true] at ha
        have h1 := ha.1
        rename_i k0 _ _ _ _ _ _ _ _
        cases k0 <;> simp [okKey, isTupK] at ok h1
  cases k with
  | none => cases kk
  | num i => exact .inl (flat rfl kk (.inl i) rfl)
  | text x => exact .inl (flat rfl kk (.inr x) rfl)
  | tup ts =>
    simp only [kindOk, Bool.and_eq_true] at kk
    rcases r with ⟨ks, rfl, r, n⟩ | ⟨ks, rfl, r, n⟩
    · cases r with
      | nil => exact .inr (.inr ⟨kk.1, rfl, h⟩)
      | cons e1 _ _ =>
        have h1 := kk.2
        simp only [List.all_cons, Bool.and_eq_true] at h1
        rename_i k0 _ _ _ _ _ _ _
        rw [← e1] at h1
        cases k0 <;> simp [nkOf, isTupK] at h1
    · exact .inr (.inl ⟨kk.1, ks, h, r, n⟩)
/-- the same of a dict that may be locked -/
theorem dicL_cases {F : Hp} {o : HO} {kvs : List (NK × PyData)} {k : NK} (h : H a = some o) (r : DicL (X.sx W) F a o kvs) (kk : kindOk kvs k = true) :
    (∃ ks k', Rd H a (.dK ks) ∧ RpK (X.sx W) F ks kvs ∧ (kvs.map (·.1)).Nodup ∧ nkOf k' = k) ∨
    (okKey k = true ∧ ∃ ks, H a = some (.ext (rawT X.prog X.w a ks)) ∧ RpT (X.sx W) F ks kvs ∧ kvs ≠ []) ∨
    (okKey k = true ∧ kvs = [] ∧ Rd H a (.dK [])) := by
  rcases r with r | ⟨od, ks, rfl, r, n⟩
  · rcases dic_cases h r kk with ⟨ks, k', h1, h2⟩ | h2 | ⟨h1, h2, h3⟩
    · exact .inl ⟨ks, k', .inl h1, h2⟩
    · exact .inr (.inl h2)
    · exact .inr (.inr ⟨h1, h2, .inl h3⟩)
  · cases k with
    | none => cases kk
    | num i => exact .inl ⟨ks, .inl i, .inr ⟨od, h⟩, r, n, rfl⟩
    | text x => exact .inl ⟨ks, .inr x, .inr ⟨od, h⟩, r, n, rfl⟩
    | tup ts =>
      simp only [kindOk, Bool.and_eq_true] at kk
      cases r with
      | nil => exact .inr (.inr ⟨kk.1, rfl, .inr ⟨od, h⟩⟩)
      | cons e1 _ _ =>
        have h1 := kk.2
        simp only [List.all_cons, Bool.and_eq_true] at h1
        rename_i k0 _ _ _ _ _ _ _
        rw [← e1] at h1
        cases k0 <;> simp [nkOf, isTupK] at h1
theorem raw0 (I : Inv X pins σ H s) (h : Rd H a (.dK [])) : (a == sysModules) = false ∧ s.heap.DictOfH (nestedKind X.prog X.w) a [] := by
  have key : ∀ {H' : Hp}, ObjOk X.prog X.w H' s.heap a (.dK []) → (a == sysModules) = false ∧ s.heap.DictOfH (nestedKind X.prog X.w) a [] := by
    intro H' x
    obtain ⟨z, hd, vs, kv, o, es, ep, h1, h2, h3, h4, h5⟩ := x
    cases kv
    have h4 : es = #[] := by
      obtain ⟨l⟩ := es
      obtain ⟨h6, _⟩ := h5
      cases l with
      | nil => rfl
      | cons x l => cases h6
    subst h4
    exact ⟨hd, o, #[], ep, h1, h2, h3, by simp, fun _ z => by simp at z, by simp⟩
  exact key (h.ok I.hok)
theorem kV_rp {F : Hp} {k : Key} {y : V} (h : Rp (X.sx W) F y (nkOf k).data) : y = kV k := by
  cases k with
  | inl i => exact Rp.intE (by simpa [nkOf, NestedKey.data] using h)
  | inr i => exact Rp.strE (by simpa [nkOf, NestedKey.data] using h)

variable {F : Hp} {o : HO} {kvs : List (NK × PyData)} {k : NK} {y : V} {u : Value}
/-- the look-up itself, by what the rules ask -/
theorem e_in {Q : Value → Shared → Prop} (hu : A.units + 64 < cLine) (I : Inv X pins σ H s) (e : Same F H) (h : H a = some o) (r : DicL (X.sx W) F a o kvs) (kk : kindOk kvs k = true) (rk : Rp (X.sx W) H y k.data) (ry : RelV y u)
    (q : ∀ s', Inv X pins σ H s' → Q (.bool (dLook kvs k).isSome) s') : wpAny (model X.prog X.w) A (compareOp .In u (.ref a)) Q E s := by
  rcases dicL_cases h r kk with ⟨ks, k', h1, r1, n1, rfl⟩ | ⟨ok, ks, h1, r1, n1⟩ | ⟨ok, rfl, h1⟩
  · have := kV_rp rk
    subst this
    refine d_in (o := valV ks k') (by omega) I (.inl ⟨ks, k', h1, rfl, rfl⟩) ry fun s' I' => ?_
    have e1 : (valV ks k').isSome = (dLook kvs (nkOf k')).isSome := by
      obtain ⟨l1, l2⟩ := r1.look k'
      cases z : dLook kvs (nkOf k') with
      | none => rw [l2 z]; rfl
      | some d => obtain ⟨v, e1, _⟩ := l1 d z; rw [e1]; rfl
    rw [e1]; exact q s' I'
  · obtain ⟨b, rfl, rfl, hk⟩ := key_at I ok rk ry
    obtain ⟨z, hd, xs, pr, dd⟩ := raw_of I e (raw_at I h1) r1
    refine wpAny_in_heap (room8 hu) hk hd dd ?_
    have e1 : (atKey xs k).isSome = (dLook kvs k).isSome := by
      obtain ⟨l1, l2⟩ := r1.look pr k
      cases z : dLook kvs k with
      | none => rw [l2 z]; rfl
      | some d => obtain ⟨b', v, u', e1, _⟩ := l1 d z; rw [e1]; rfl
    rw [e1]; exact q _ (I.tok _)
  · obtain ⟨hd, dd⟩ := raw0 I h1
    obtain ⟨b, rfl, rfl, hk⟩ := key_at I ok rk ry
    refine wpAny_in_heap (xs := []) (room8 hu) hk hd dd ?_
    exact q _ (I.tok _)
theorem e_notIn {Q : Value → Shared → Prop} (hu : A.units + 64 < cLine) (I : Inv X pins σ H s) (e : Same F H) (h : H a = some o) (r : DicL (X.sx W) F a o kvs) (kk : kindOk kvs k = true) (rk : Rp (X.sx W) H y k.data) (ry : RelV y u)
    (q : ∀ s', Inv X pins σ H s' → Q (.bool (!(dLook kvs k).isSome)) s') : wpAny (model X.prog X.w) A (compareOp .NotIn u (.ref a)) Q E s := by
  rcases dicL_cases h r kk with ⟨ks, k', h1, r1, n1, rfl⟩ | ⟨ok, ks, h1, r1, n1⟩ | ⟨ok, rfl, h1⟩
  · have := kV_rp rk
    subst this
    refine d_notIn (o := valV ks k') (by omega) I (.inl ⟨ks, k', h1, rfl, rfl⟩) ry fun s' I' => ?_
    have e1 : (valV ks k').isSome = (dLook kvs (nkOf k')).isSome := by
      obtain ⟨l1, l2⟩ := r1.look k'
      cases z : dLook kvs (nkOf k') with
      | none => rw [l2 z]; rfl
      | some d => obtain ⟨v, e1, _⟩ := l1 d z; rw [e1]; rfl
    rw [e1]; exact q s' I'
  · obtain ⟨b, rfl, rfl, hk⟩ := key_at I ok rk ry
    obtain ⟨z, hd, xs, pr, dd⟩ := raw_of I e (raw_at I h1) r1
    refine wpAny_notIn_heap (room8 hu) hk hd dd ?_
    have e1 : (atKey xs k).isSome = (dLook kvs k).isSome := by
      obtain ⟨l1, l2⟩ := r1.look pr k
      cases z : dLook kvs k with
      | none => rw [l2 z]; rfl
      | some d => obtain ⟨b', v, u', e1, _⟩ := l1 d z; rw [e1]; rfl
    rw [e1]; exact q _ (I.tok _)
  · obtain ⟨hd, dd⟩ := raw0 I h1
    obtain ⟨b, rfl, rfl, hk⟩ := key_at I ok rk ry
    refine wpAny_notIn_heap (xs := []) (room8 hu) hk hd dd ?_
    exact q _ (I.tok _)
theorem e_getItem {d : PyData} {Q : Value → Shared → Prop} (hu : A.units + 64 < cLine) (I : Inv X pins σ H s) (e : Same F H) (h : H a = some o) (r : DicL (X.sx W) F a o kvs) (kk : kindOk kvs k = true) (rk : Rp (X.sx W) H y k.data) (ry : RelV y u)
    (hd : dLook kvs k = some d) (q : ∀ v u' s', Inv X pins σ H s' → RelV v u' → Rp (X.sx W) F v d → Q u' s') : wpAny (model X.prog X.w) A (getItem (.ref a) u) Q E s := by
  rcases dicL_cases h r kk with ⟨ks, k', h1, r1, n1, rfl⟩ | ⟨ok, ks, h1, r1, n1⟩ | ⟨ok, rfl, h1⟩
  · have := kV_rp rk
    subst this
    obtain ⟨v, e1, rv⟩ := (r1.look k').1 d hd
    exact d_getItem (v := v) (by omega) I (by rw [← e1]; exact .inl ⟨ks, k', h1, rfl, rfl⟩) ry fun u' s' I' ru => q v u' s' I' ru rv
  · obtain ⟨b, rfl, rfl, hk⟩ := key_at I ok rk ry
    obtain ⟨z, hs, xs, pr, dd⟩ := raw_of I e (raw_at I h1) r1
    obtain ⟨b', v, u', e1, ru, rv⟩ := (r1.look pr k).1 d hd
    exact wpAny_getItem_heap (room8 hu) hk dd e1 (q v u' _ (I.tok _) ru rv)
  · simp [dLook] at hd
theorem e_get2 {d dx : PyData} {x : V} {ux : Value} {Q : Value → Shared → Prop} (hu : A.units + 64 < cLine) (I : Inv X pins σ H s) (e : Same F H) (h : H a = some o) (r : DicL (X.sx W) F a o kvs) (kk : kindOk kvs k = true) (rk : Rp (X.sx W) H y k.data) (ry : RelV y u)
    (rx : Rp (X.sx W) F x dx) (rux : RelV x ux) (hd : (dLook kvs k).getD dx = d) (q : ∀ v u' s', Inv X pins σ H s' → RelV v u' → Rp (X.sx W) F v d → Q u' s') : wpAny (model X.prog X.w) A (call (.builtin "dict.get") [.ref a, u, ux]) Q E s := by
  rcases dicL_cases h r kk with ⟨ks, k', h1, r1, n1, rfl⟩ | ⟨ok, ks, h1, r1, n1⟩ | ⟨ok, rfl, h1⟩
  · have := kV_rp rk
    subst this
    refine d_get2 (o := valV ks k') (d := x) (by omega) I (.inl ⟨ks, k', h1, rfl, rfl⟩) ry rux fun u' s' I' ru => ?_
    obtain ⟨l1, l2⟩ := r1.look k'
    cases z : dLook kvs (nkOf k') with
    | none =>
      rw [z] at hd
      rw [l2 z] at ru
      exact q x u' s' I' ru (by rw [← hd]; exact rx)
    | some d' =>
      rw [z] at hd
      obtain ⟨v, e1, rv⟩ := l1 d' z
      rw [e1] at ru
      exact q v u' s' I' ru (by rw [← hd]; exact rv)
  · obtain ⟨b, rfl, rfl, hk⟩ := key_at I ok rk ry
    obtain ⟨z, hs, xs, pr, dd⟩ := raw_of I e (raw_at I h1) r1
    refine call_meetsIn PySem.F.slot_dict_get dd.typeIs PySem.F.entry_dict_get (PySem.F.args_dict_get_3 _ _ _) (meetsH_dict_get_default (nestedKind X.prog X.w) a b hs ux) ⟨room8 hu, k, xs, hk, dd, ?_⟩
    obtain ⟨l1, l2⟩ := r1.look pr k
    cases z : dLook kvs k with
    | none =>
      rw [z] at hd
      rw [l2 z]
      exact q x ux _ (I.tok _) rux (by rw [← hd]; exact rx)
    | some d' =>
      rw [z] at hd
      obtain ⟨b', v, u', e1, ru, rv⟩ := l1 d' z
      rw [e1]
      exact q v u' _ (I.tok _) ru (by rw [← hd]; exact rv)
  · obtain ⟨hs, dd⟩ := raw0 I h1
    obtain ⟨b, rfl, rfl, hk⟩ := key_at I ok rk ry
    refine call_meetsIn PySem.F.slot_dict_get dd.typeIs PySem.F.entry_dict_get (PySem.F.args_dict_get_3 _ _ _) (meetsH_dict_get_default (nestedKind X.prog X.w) a b hs ux) ⟨room8 hu, k, [], hk, dd, ?_⟩
    exact q x ux _ (I.tok _) rux (by rw [← hd]; exact rx)

/-! ### d[k] = v -/
theorem nkOf_inj {a b : Key} : nkOf a = nkOf b ↔ a = b := by
  constructor
  · intro z
    cases a <;> cases b <;> simp [nkOf] at z <;> simp [z]
  · rintro rfl; rfl
theorem RpK.any {S : Sx} (k : Key) : ∀ {ks : List (Key × V)} {kvs : List (NK × PyData)}, RpK S F ks kvs → (ks.any fun kv => decide (kv.1 = k)) = (kvs.any fun p => decide (p.1 = nkOf k))
  | _, _, .nil => rfl
  | _, _, .cons e1 _ q => by
    subst e1
    have ih := RpK.any k q
    simp only [List.any_cons, ih]
    congr 1
    exact decide_eq_decide.mpr nkOf_inj.symm
theorem RpK.repl {S : Sx} {v : V} {d : PyData} (rv : Rp S F v d) (k : Key) : ∀ {ks : List (Key × V)} {kvs : List (NK × PyData)}, RpK S F ks kvs →
    RpK S F (ks.map fun kv => if kv.1 = k then (kv.1, v) else kv) (kvs.map fun p => if p.1 = nkOf k then (p.1, d) else p)
  | _, _, .nil => .nil
  | _, _, @RpK.cons _ _ k0 _ _ _ _ _ e1 h0 q => by
    subst e1
    simp only [List.map_cons]
    by_cases hk : k0 = k
    · subst hk
      rw [if_pos rfl, if_pos rfl]
      exact .cons rfl rv (RpK.repl rv _ q)
    · rw [if_neg hk, if_neg (fun z => hk (nkOf_inj.mp z))]
      exact .cons rfl h0 (RpK.repl rv _ q)
theorem RpK.snoc {S : Sx} {v : V} {d : PyData} (rv : Rp S F v d) (k : Key) : ∀ {ks : List (Key × V)} {kvs : List (NK × PyData)}, RpK S F ks kvs → RpK S F (ks ++ [(k, v)]) (kvs ++ [(nkOf k, d)])
  | _, _, .nil => .cons rfl rv .nil
  | _, _, .cons e1 h0 q => .cons e1 h0 (RpK.snoc rv k q)
theorem RpK.put {S : Sx} {v : V} {d : PyData} (rv : Rp S F v d) (k : Key) {ks : List (Key × V)} {kvs : List (NK × PyData)} (r : RpK S F ks kvs) : RpK S F (putK ks k v) (dPut kvs (nkOf k) d) := by
  unfold putK dPut
  rw [r.any k]
  split
  · exact r.repl rv k
  · exact r.snoc rv k
abbrev PrT : (NK × Addr × V) → (NK × Addr × Value) → Prop := fun p q => p.1 = q.1 ∧ p.2.1 = q.2.1 ∧ RelV p.2.2 q.2.2
theorem RpT.any {S : Sx} (k : NK) : ∀ {ks : List (NK × Addr × V)} {kvs : List (NK × PyData)} {xs : List (NK × Addr × Value)}, RpT S F ks kvs → Paired PrT ks xs → (kvs.any fun p => decide (p.1 = k)) = (atKey xs k).isSome
  | _, _, _, .nil, .nil => rfl
  | _, _, _, @RpT.cons _ _ k0 _ _ _ _ _ o0 b0 h0 q, .cons (b := (k2, b2, u2)) z zs => by
    obtain ⟨z1, z2, z3⟩ := z
    simp only at z1 z2
    subst z1 z2
    have ih := RpT.any k q zs
    simp only [List.any_cons, ih]
    by_cases hk : k0 = k
    · subst hk
      simp [atKey]
    · simp [atKey, hk]
theorem RpT.repl {S : Sx} {v : V} {d : PyData} {k : NK} {u : Value} (rv : Rp S F v d) (ru : RelV v u) : ∀ {ks : List (NK × Addr × V)} {kvs : List (NK × PyData)} {xs : List (NK × Addr × Value)}, RpT S F ks kvs → Paired PrT ks xs →
    ∃ ks', ks'.length = ks.length ∧ RpT S F ks' (kvs.map fun p => if p.1 = k then (p.1, d) else p) ∧ Paired PrT ks' (xs.map (putAt k u))
  | _, _, _, .nil, .nil => ⟨[], rfl, .nil, .nil⟩
  | _, _, _, @RpT.cons _ _ k0 b0 v0 _ _ _ o0 h1 h0 q, .cons (b := (k2, b2, u2)) z zs => by
    obtain ⟨z1, z2, z3⟩ := z
    simp only at z1 z2 z3
    subst z1 z2
    obtain ⟨ks', l, i1, i2⟩ := RpT.repl (k := k) rv ru q zs
    by_cases hk : k0 = k
    · subst hk
      refine ⟨(k0, b0, v) :: ks', by simp [l], ?_, ?_⟩
      · simp only [List.map_cons, if_pos]
        exact .cons o0 h1 rv i1
      · simp only [List.map_cons, putAt, if_pos]
        exact .cons ⟨rfl, rfl, ru⟩ i2
    · refine ⟨(k0, b0, v0) :: ks', by simp [l], ?_, ?_⟩
      · simp only [List.map_cons, if_neg hk]
        exact .cons o0 h1 h0 i1
      · simp only [List.map_cons, putAt, if_neg hk]
        exact .cons ⟨rfl, rfl, z3⟩ i2
theorem RpT.snoc {S : Sx} {v : V} {d : PyData} {b : Addr} {k : NK} {u : Value} (rv : Rp S F v d) (ok : okKey k = true) (rb : Rp S F (.ref b) k.data) (ru : RelV v u) :
    ∀ {ks : List (NK × Addr × V)} {kvs : List (NK × PyData)} {xs : List (NK × Addr × Value)}, RpT S F ks kvs → Paired PrT ks xs → RpT S F (ks ++ [(k, b, v)]) (kvs ++ [(k, d)]) ∧ Paired PrT (ks ++ [(k, b, v)]) (xs ++ [(k, b, u)])
  | _, _, _, .nil, .nil => ⟨.cons ok rb rv .nil, .cons ⟨rfl, rfl, ru⟩ .nil⟩
  | _, _, _, .cons o0 h1 h0 q, .cons z zs => by
    obtain ⟨i1, i2⟩ := RpT.snoc rv ok rb ru q zs
    exact ⟨.cons o0 h1 h0 i1, .cons z i2⟩
theorem RpT.put {S : Sx} {v : V} {d : PyData} {b : Addr} {k : NK} (rv : Rp S F v d) (ok : okKey k = true) (rb : Rp S F (.ref b) k.data) {u : Value} (ru : RelV v u) {ks : List (NK × Addr × V)} {kvs : List (NK × PyData)} (r : RpT S F ks kvs)
    {xs : List (NK × Addr × Value)} (pr : Paired PrT ks xs) :
    ∃ ks', ks'.length ≤ ks.length + 1 ∧ RpT S F ks' (dPut kvs k d) ∧ Paired PrT ks' (storedH xs k b u) := by
  unfold dPut
  rw [r.any k pr]
  cases hz : atKey xs k with
  | none =>
    rw [storedH_new hz]
    obtain ⟨i1, i2⟩ := RpT.snoc rv ok rb ru r pr
    exact ⟨_, by simp, by simpa using i1, i2⟩
  | some p =>
    rw [storedH_old hz]
    obtain ⟨ks', l, i1, i2⟩ := RpT.repl (k := k) rv ru r pr
    exact ⟨ks', by omega, by simpa using i1, i2⟩
theorem dPut_ne {kvs : List (NK × PyData)} {k : NK} {d : PyData} : dPut kvs k d ≠ [] := by
  unfold dPut
  split
  · rename_i h
    intro z
    have := List.map_eq_nil_iff.mp z
    subst this
    simp at h
  · simp
theorem dPut_nodup {kvs : List (NK × PyData)} {k : NK} {d : PyData} (n : (kvs.map (·.1)).Nodup) : ((dPut kvs k d).map (·.1)).Nodup := by
  unfold dPut
  split
  · have e : (kvs.map fun p => if p.1 = k then (p.1, d) else p).map (·.1) = kvs.map (·.1) := by
      rw [List.map_map]
      refine List.map_congr_left fun p _ => ?_
      show (if p.1 = k then (p.1, d) else p).1 = p.1
      split <;> rfl
    rw [e]; exact n
  · rename_i h
    rw [List.map_append, List.map_cons, List.map_nil]
    refine List.nodup_append.mpr ⟨n, by simp, fun x hx y hy => ?_⟩
    rw [List.mem_singleton] at hy
    subst hy
    intro z
    subst z
    apply h
    rw [List.any_eq_true]
    obtain ⟨p, hp, e⟩ := List.mem_map.mp hx
    exact ⟨p, hp, by simp [e]⟩
/-- d[k] = v, d one's own -/
theorem e_setItem {d : PyData} {v : V} {uv : Value} {Q : Unit → Shared → Prop} (hu : A.units + 64 < cLine) (I : Inv X pins σ H s) (e : Same F H) (h : H a = some o) (fa : F a = none) (r : DicR (X.sx W) F a o kvs) (kk : kindOk kvs k = true) (hz : kvs.length + 1 ≤ sizeLine)
    (rk : Rp (X.sx W) F y k.data) (ry : RelV y u) (rv : Rp (X.sx W) F v d) (ruv : RelV v uv)
    (q : ∀ o' s', Inv X pins σ (upd H a o') s' → DicR (X.sx W) F a o' (dPut kvs k d) → Q () s') : wpAny (model X.prog X.w) A (setItem (.ref a) u uv) Q E s := by
  rcases dic_cases h r kk with ⟨ks, k', h1, r1, n1, rfl⟩ | ⟨ok, ks, h1, r1, n1⟩ | ⟨ok, rfl, h1⟩
  · have := kV_rp rk
    subst this
    refine d_setItem (by omega) I (.k h1 (by have := r1.length; omega)) ry ruv fun s' I' => q _ s' I' (.inl ⟨_, rfl, r1.put rv k', dPut_nodup n1⟩)
  · obtain ⟨b, rfl, rfl, hk⟩ := key_at I ok (rk.mono e) ry
    obtain ⟨z, hs, xs, pr, dd⟩ := raw_of I e (raw_at I h1) r1
    have hl := Paired.length pr
    refine wpAny_setItem_heap (hsz := by omega) (room8 hu) hk dd fun h' dd' hs' => ?_
    obtain ⟨ks', l, i1, i2⟩ := r1.put rv ok rk ruv pr
    obtain ⟨q0, es, ep, g1, g2, g3, g4, _, g5⟩ := dd'
    have hlen := r1.length
    refine q (.ext (rawT X.prog X.w a ks')) _ (d_write I (by rw [h1]; trivial) hs' ⟨q0, g1⟩ ⟨⟨by omega, hs, _, i2, q0, es, ep, g1, g2, g3, g4, g5⟩, ⟨q0, g1⟩, fun _ _ => ext_stay⟩) (.inr ⟨_, rfl, i1, dPut_ne⟩)
  · have I1 := retag I h1
    obtain ⟨b, rfl, rfl, hk⟩ := key_at I ok (rk.mono e) ry
    obtain ⟨p1, hs, xs, p3, p4⟩ := raw_at I1 upd_same
    cases p3
    obtain ⟨o', es, ep, g1, g2, g3, g4, g5⟩ := p4
    refine wpAny_setItem_heap (xs := []) (hsz := by simp) (room8 hu) hk ⟨o', es, ep, g1, g2, g3, g4, fun _ z => by simp at z, g5⟩ fun h' dd' hs' => ?_
    obtain ⟨ks', l, i1, i2⟩ := RpT.put (S := X.sx W) (F := F) rv ok rk ruv .nil .nil
    obtain ⟨q0, es', ep', g1', g2', g3', g4', _, g5'⟩ := dd'
    have hk1 : ks'.length ≤ sizeLine := by
      have h2 : (1 : Nat) ≤ sizeLine := by rw [sizeLine_eq]; decide
      simp only [List.length_nil] at l
      omega
    have w := d_write (ob := .ext (rawT X.prog X.w a ks')) (t' := s.toks + (nestedKind X.prog X.w).draws k) I1 (by rw [upd_same]; trivial) hs' ⟨q0, g1'⟩ ⟨⟨hk1, hs, _, i2, q0, es', ep', g1', g2', g3', g4', g5'⟩, ⟨q0, g1'⟩, fun _ _ => ext_stay⟩
    rw [upd_upd] at w
    exact q _ _ w (.inr ⟨_, rfl, i1, dPut_ne⟩)
theorem room8A (hu : A.units + 64 < cLine) : (nestedKind X.prog X.w).room A := by
  show A.units + 8 < cLine
  omega
/-- the same without the look at the object's kind: a display's entry -/
theorem e_dictSet {d : PyData} {v : V} {uv : Value} {Q : Unit → Shared → Prop} (hu : A.units + 64 < cLine) (I : Inv X pins σ H s) (e : Same F H) (h : H a = some (.dK [])) (kk : kindOk [] k = true)
    (rk : Rp (X.sx W) F y k.data) (ry : RelV y u) (rv : Rp (X.sx W) F v d) (ruv : RelV v uv)
    (q : ∀ o' s', Inv X pins σ (upd H a o') s' → DicR (X.sx W) F a o' [(k, d)] → Q () s') : wpAny (model X.prog X.w) A (dictSet a u uv) Q E s := by
  have hz1 : (1 : Nat) ≤ sizeLine := by rw [sizeLine_eq]; decide
  have r0 : DicR (X.sx W) F a (.dK []) [] := .inl ⟨[], rfl, .nil, by simp⟩
  rcases dic_cases h r0 kk with ⟨ks, k', h1, r1, n1, rfl⟩ | ⟨ok, ks, h1, r1, n1⟩ | ⟨ok, _, h1⟩
  · have := kV_rp rk
    subst this
    cases r1
    obtain ⟨z, hd, vs, rel, dd⟩ := dk_of I.hok h1
    have hz : vs.length ≤ sizeLine := by rw [← rel.length]; exact z
    have hl : (putK [] k' v).length ≤ sizeLine := by
      have := length_putK [] k' v
      simp at this
      omega
    refine wpAny_dictSet_pairs (hsz := hz) (kV_is ry) dd fun h' dd' hs => q (.dK (putK [] k' v)) _ ?_ (.inl ⟨_, rfl, RpK.put rv k' .nil, dPut_nodup n1⟩)
    have he : ∃ q, h'.get? a = some q := let ⟨q, _, _, hq, _⟩ := dd'; ⟨q, hq⟩
    exact d_write I (by rw [h1]; exact True.intro) hs he (dk_new hl hd (rel.put k' ruv) dd')
  · exact absurd rfl n1
  · have I1 := retag I h1
    obtain ⟨b, rfl, rfl, hk⟩ := key_at I ok (rk.mono e) ry
    obtain ⟨p1, hs, xs, p3, p4⟩ := raw_at I1 upd_same
    cases p3
    obtain ⟨o', es, ep, g1, g2, g3, g4, g5⟩ := p4
    refine wpAny_dictSet_heap (xs := []) (hsz := by simp) (room8A hu) hk ⟨o', es, ep, g1, g2, g3, g4, fun _ z => by simp at z, g5⟩ fun h' dd' hs' => ?_
    obtain ⟨ks', l, i1, i2⟩ := RpT.put (S := X.sx W) (F := F) rv ok rk ruv .nil .nil
    obtain ⟨q0, es', ep', g1', g2', g3', g4', _, g5'⟩ := dd'
    have hk1 : ks'.length ≤ sizeLine := by
      simp only [List.length_nil] at l
      omega
    have w := d_write (ob := .ext (rawT X.prog X.w a ks')) (t' := s.toks + (nestedKind X.prog X.w).draws k) I1 (by rw [upd_same]; trivial) hs' ⟨q0, g1'⟩ ⟨⟨hk1, hs, _, i2, q0, es', ep', g1', g2', g3', g4', g5'⟩, ⟨q0, g1'⟩, fun _ _ => ext_stay⟩
    rw [upd_upd] at w
    exact q _ _ w (.inr ⟨_, rfl, i1, by simp⟩)
end
/-- {k: x} -/
def tD1 (S : Sx) (tk tv : TE) : TE := fun σ H Q => ∀ p, H p = none → tk σ (upd H p (.dK [])) fun y H1 => tv σ H1 fun x H2 => H2 p = some (.dK []) ∧
  ∃ F k d, Same F H2 ∧ kindOk [] k = true ∧ Rp S F y k.data ∧ Rp S F x d ∧ ∀ o', DicR S F p o' [(k, d)] → Q (.ref p) (upd H2 p o')
theorem eval_disp {X : Cx} {y z : Expr} {pos : Pos} {Q : Value → Shared → Prop} {s : Shared} (h0 : wpAny (model X.prog X.w) X.A (dictDisplay ([(eval y X.env, (do let x ← eval z X.env; standAt pos; pure x : Sem Value))].map fun p => (some p.1, p.2))) Q X.xe s) : wpAny (model X.prog X.w) X.A (eval (.Dict [some y] [z] pos) X.env) Q X.xe s := by
  rw [arm_eval_Dict]
  exact wpAny_bind (wpAny_standAt h0)
theorem disp_one {X : Cx} {a b : Sem Value} {Q : Value → Shared → Prop} {s : Shared} (h : wpAny (model X.prog X.w) X.A a (fun kv s1 => wpAny (model X.prog X.w) X.A b (fun vv s2 => wpAny (model X.prog X.w) X.A (dictSet s.heap.objs.size kv vv) (fun _ s3 => Q (.ref s.heap.objs.size) s3) X.xe s2) X.xe s1) X.xe { s with heap := s.heap.push { cls := .type "dict", data := .dict #[] } }) : wpAny (model X.prog X.w) X.A (dictDisplay ([(a, b)].map fun p => (some p.1, p.2))) Q X.xe s := by
  rw [dictDisplay_pairs _ (by simp) (by simp)]
  refine wpAny_bind ?_
  unfold subDict
  refine wpAny_bind (wpAny_alloc ?_)
  refine wpAny_bind (wpAny_holding ?_)
  rw [if_pos (by simp)]
  refine wpAny_bind (evalPairs_cons (wpAny_mono h (fun kv s1 h1 => wpAny_mono h1 (fun vv s2 h2 => evalPairs_nil ?_) fun _ _ e => e) fun _ _ e => e))
  refine wpAny_holding (wpAny_bind ?_)
  rw [List.forIn_cons]
  refine wpAny_bind (wpAny_bind (wpAny_mono h2 (fun _ s3 h3 => wpAny_pure ?_) fun _ _ e => e))
  dsimp only
  rw [List.forIn_nil]
  exact wpAny_pure (wpAny_pure (wpAny_pure (wpAny_pure h3)))
theorem pe_dict1 {X : Cx} {W : WX} {y z : Expr} {pos : Pos} {tk tv : TE} (hu : X.A.units + 64 < cLine) (hk : PE X y tk) (hv : PE X z tv) : PE X (.Dict [some y] [z] pos) (tD1 (X.sx W) tk tv) := by
  refine ⟨fun pins s σ H Q I h => eval_disp (disp_one ?_)⟩
  have I0 : Inv X pins σ (upd H s.heap.objs.size (.dK [])) { s with heap := s.heap.push { cls := .type "dict", data := .dict #[] } } := I.laid (a := s.heap.objs.size) (o := .dK []) (t' := s.toks) (fun _ _ q => Heap.get?_push_of_some _ q) (Nat.le_refl _) (dk_empty s.heap I.big)
  have h0 := h _ (I.hok.fresh (Nat.le_refl _))
  refine thn (hk.run pins _ σ _ _ I0 h0) fun kv s1 ⟨y1, H1, I1, ry, q1⟩ => wpAny_bind (thn (hv.run pins s1 σ H1 _ I1 q1) fun vv s2 ⟨x1, H2, I2, rx, hp, F, k, d, ff, kk, rk, rd, q2⟩ => wpAny_bind (wpAny_standAt (wpAny_pure ?_)))
  exact e_dictSet (W := W) (by omega) I2 ff hp kk rk ry rd rx fun o' s' I' r' => ⟨.ref s.heap.objs.size, _, I', rfl, q2 o' r'⟩
end VI
set_option Elab.async false
set_option linter.all false
set_option autoImplicit false
set_option maxRecDepth 20000
/-! Sequences and built-in functions by values. -/
namespace VI
open PySem PySem.Spec PyProof.Rows L2

section
variable {X : Cx} {W : WX}

theorem room_tl {d : PyData} {ds : List PyData} {A : Around} (hd : SeqAt.shaped d = true) (hu : A.units + 65 < cLine) : A.units + 1 + min (PyData.depthAll ds) d.depth < cLine := by
  have h : d.depth ≤ 64 := by
    unfold SeqAt.shaped at hd
    rw [Bool.and_eq_true] at hd
    exact of_decide_eq_true hd.2
  have := Nat.min_le_right (PyData.depthAll ds) d.depth
  omega
theorem undict_some {l : List (PyData × PyData)} {kvs : List (NK × PyData)} (h : undict l = some kvs) : PyData.dict l = dictOf kvs := undict_eq l h
theorem dKey_some {kvs : List (NK × PyData)} {x : PyData} {k : NK} (h : dKey kvs x = some k) : x = k.data ∧ kindOk kvs k = true := by
  unfold dKey at h
  obtain ⟨k', h1, h2⟩ := Option.bind_eq_some_iff.mp h
  split at h2
  · cases h2
    rename_i z
    exact ⟨(data_keyOf x h1).symm, z⟩
  · cases h2
theorem o_in (hu : X.A.units + 65 < cLine) : OpR X (compareOp .In) (rTe (X.sx W) (cmpD .isIn)) := by
  rintro pins s σ H x y v u Q I rx ry ⟨F₁, dx, dy, r, e, hx, hy, hf, q⟩
  have hf : inD dx dy = some r := hf
  unfold inD at hf
  split at hf
  · split at hf <;> cases hf
    rename_i ds hs
    rw [Bool.and_eq_true] at hs
    exact op_inD hu pins s σ H _ _ v u Q I rx ry ⟨dx, ds, (hx.rp e).dp (lay_of hs.1), (hy.rp e).dp (lay_of hs.2), hs.1, hs.2, q⟩
  · split at hf <;> cases hf
    rename_i ds hs
    rw [Bool.and_eq_true] at hs
    obtain ⟨as, r1⟩ := Dp.reads I dx x v ((hx.rp e).dp (lay_of hs.1)) rx
    obtain ⟨bs, r2⟩ := Dp.reads I (.tuple ds) y u ((hy.rp e).dp (lay_of hs.2)) ry
    exact SeqAt.in_tuple_reads r2 r1 (by have := lay_of hs.2; simpa [PyData.canLay0] using this) (lay_of hs.1) (room_tl hs.1 hu) ⟨.bl _, H, I, rfl, q⟩
  · split at hf
    · split at hf <;> cases hf
      rename_i z w hw
      have e1 := hx.strE; have e2 := hy.strE
      subst e1 e2
      obtain ⟨c, hc⟩ : ∃ c, w = ⟨#[c]⟩ := by
        obtain ⟨⟨l⟩⟩ := w
        have hl : l.length = 1 := hw
        match l, hl with
        | [c], _ => exact ⟨c, rfl⟩
      subst hc
      exact op_in_sign pins s σ H _ _ v u Q I rx ry ⟨c, _, rfl, rfl, q⟩
    · cases hf
  · rename_i kvs
    obtain ⟨kvs', h1, h2⟩ := Option.bind_eq_some_iff.mp hf
    obtain ⟨k, h3, rfl⟩ := Option.map_eq_some_iff.mp h2
    obtain ⟨rfl, kk⟩ := dKey_some h3
    rw [undict_some h1] at hy
    obtain ⟨a, o, rfl, ha, rd⟩ := hy.dicE e
    cases ry
    exact e_in (by omega) I e ha rd kk (hx.rp e) rx fun s' I' => ⟨.bl _, H, I', rfl, q⟩
  · cases hf
theorem o_notIn (hu : X.A.units + 65 < cLine) : OpR X (compareOp .NotIn) (rTe (X.sx W) (cmpD .notIn)) := by
  rintro pins s σ H x y v u Q I rx ry ⟨F₁, dx, dy, r, e, hx, hy, hf, q⟩
  obtain ⟨r', hf1, rfl⟩ := Option.map_eq_some_iff.mp (show (inD dx dy).map (!·) = some r from hf)
  clear hf
  have hf : inD dx dy = some r' := hf1
  clear hf1
  unfold inD at hf
  split at hf
  · split at hf <;> cases hf
    rename_i ds hs
    rw [Bool.and_eq_true] at hs
    exact op_notInD hu pins s σ H _ _ v u Q I rx ry ⟨dx, ds, (hx.rp e).dp (lay_of hs.1), (hy.rp e).dp (lay_of hs.2), hs.1, hs.2, q⟩
  · split at hf <;> cases hf
    rename_i ds hs
    rw [Bool.and_eq_true] at hs
    obtain ⟨as, r1⟩ := Dp.reads I dx x v ((hx.rp e).dp (lay_of hs.1)) rx
    obtain ⟨bs, r2⟩ := Dp.reads I (.tuple ds) y u ((hy.rp e).dp (lay_of hs.2)) ry
    exact SeqAt.notIn_tuple_reads r2 r1 (by have := lay_of hs.2; simpa [PyData.canLay0] using this) (lay_of hs.1) (room_tl hs.1 hu) ⟨.bl _, H, I, rfl, q⟩
  · split at hf
    · split at hf <;> cases hf
      rename_i z w hw
      have e1 := hx.strE; have e2 := hy.strE
      subst e1 e2
      obtain ⟨c, hc⟩ : ∃ c, w = ⟨#[c]⟩ := by
        obtain ⟨⟨l⟩⟩ := w
        have hl : l.length = 1 := hw
        match l, hl with
        | [c], _ => exact ⟨c, rfl⟩
      subst hc
      exact op_notIn_sign pins s σ H _ _ v u Q I rx ry ⟨c, _, rfl, rfl, q⟩
    · cases hf
  · rename_i kvs
    obtain ⟨kvs', h1, h2⟩ := Option.bind_eq_some_iff.mp hf
    obtain ⟨k, h3, rfl⟩ := Option.map_eq_some_iff.mp h2
    obtain ⟨rfl, kk⟩ := dKey_some h3
    rw [undict_some h1] at hy
    obtain ⟨a, o, rfl, ha, rd⟩ := hy.dicE e
    cases ry
    exact e_notIn (by omega) I e ha rd kk (hx.rp e) rx fun s' I' => ⟨.bl _, H, I', rfl, q⟩
  · cases hf

/-! ### x[i] -/
theorem atI_all {S : Sx} {F : Hp} {xs : List V} {ds : List PyData} (r : RpAll S F xs ds) {i : Int} {d : PyData} (h : atI ds i = some d) : ∃ v, atI xs i = some v ∧ Rp S F v d := by
  unfold atI at h ⊢
  rw [r.length]
  obtain ⟨j, h1, h2⟩ := Option.bind_eq_some_iff.mp h
  obtain ⟨v, h3, h4⟩ := r.get h2
  exact ⟨v, by rw [h1]; exact h3, h4⟩
/-- x[i], all kinds -/
theorem x_ix (hu : X.A.units + 64 < cLine) {a b : Expr} {ta tb : TE} {pos : Pos} (ha : PE X a ta) (hb : PE X b tb) (hs : PlainIx b) : PE X (.Subscript a b pos) (tOp (rOp (X.sx W) idxD) ta tb) := by
  refine ⟨fun pins s σ H Q I h => ?_⟩
  refine Subscript_ (L2.bin ha hb I h fun v u s2 x y H2 I2 rx ry q => ?_)
  obtain ⟨F₁, dx, dy, r, e, hx, hy, hf, q⟩ := q
  unfold idxD at hf
  split at hf
  · split at hf
    · have e2 := hy.intE
      subst e2
      obtain ⟨p, xs, rfl, h1, r1⟩ := hx.lstE e
      obtain ⟨w', h2, h3⟩ := atI_all r1 hf
      exact ix_seq a b pins s2 σ H2 _ _ v u Q I2 rx ry (.inl ⟨p, xs, _, w', rfl, rfl, h1, h2, q _ _ F₁ (.refl e) h3⟩) (hs _ _)
    · cases hf
  · split at hf
    · have e2 := hy.intE
      subst e2
      obtain ⟨p, xs, rfl, h1, r1⟩ := hx.tupE e
      obtain ⟨w', h2, h3⟩ := atI_all r1 hf
      exact ix_seq a b pins s2 σ H2 _ _ v u Q I2 rx ry (.inr (.inl ⟨p, xs, _, w', rfl, rfl, SqT.same e h1, h2, q _ _ F₁ (.refl e) h3⟩)) (hs _ _)
    · cases hf
  · split at hf
    · have e1 := hx.strE; have e2 := hy.intE
      subst e1 e2
      split at hf
      · rename_i hz
        obtain ⟨c, h1, rfl⟩ := Option.map_eq_some_iff.mp hf
        exact ix_seq a b pins s2 σ H2 _ _ v u Q I2 rx ry (.inr (.inr ⟨_, _, c, rfl, rfl, most_line hz, h1, q _ _ F₁ (.refl e) (.str _)⟩)) (hs _ _)
      · cases hf
    · cases hf
  · rename_i kvs
    obtain ⟨kvs', h1, h2⟩ := Option.bind_eq_some_iff.mp hf
    obtain ⟨k, h3, h4⟩ := Option.bind_eq_some_iff.mp h2
    obtain ⟨rfl, kk⟩ := dKey_some h3
    rw [undict_some h1] at hx
    obtain ⟨p, o, rfl, hp, rd⟩ := hx.dicE e
    cases rx
    have hT : s2.TypeIs (.ref p) "dict" := by
      rcases rd.two hp with ⟨ks, hp, _⟩ | ⟨ks, hp, _⟩
      · obtain ⟨_, _, _, _, dd⟩ := dk_rd I2.hok hp
        exact dd.typeIs
      · obtain ⟨_, _, xs, _, o', es, ep, g1, g2, _⟩ := raw_at I2 hp
        exact ⟨o', g1, g2.1⟩
    refine tail_any hT slot_dict_getitem.lookup ?_ (hs _ _)
    exact e_getItem hu I2 e hp rd kk (hy.rp e) ry h4 fun w' u' s' I' ru rw' => ⟨w', H2, I', ru, q _ _ F₁ (.refl e) rw'⟩
  · cases hf

/-! ### slices -/
theorem cutE_all {S : Sx} {F : Hp} {xs : List V} {ds : List PyData} (r : RpAll S F xs ds) (lo hi : Option Int) : RpAll S F (cutV xs lo hi) (cutE ds lo hi) := by
  unfold cutV cutE
  rw [r.length]
  exact (r.drop _).take _
def rSlD (S : Sx) : V → Option Int → Option Int → Hp → VK → Prop := fun x lo hi H Q => ∃ F dx r, Same F H ∧ Pk S F H x dx ∧ (match dx with
  | .list xs => some (.list (cutE xs lo hi))
  | .tuple xs => some (.tuple (cutE xs lo hi))
  | .str z => if small z.length then some (.str (Txt.slice z lo hi)) else none
  | _ => none) = some r ∧ ∀ z H' F', Ext H F H' F' → Rp S F' z r → Q z H'
theorem sl_all : SlR X (rSlD (X.sx W)) := by
  rintro pins s σ H x v vl vu lo hi sl Q I rx hs pl pu ⟨F₁, dx, r, e, hx, hf, q⟩
  split at hf
  · cases hf
    obtain ⟨p, xs, rfl, h1, r1⟩ := hx.lstE e
    exact sl_list pins s σ H _ v vl vu lo hi sl Q I rx hs pl pu ⟨p, xs, rfl, h1, fun l hl => q _ _ _ (.new e _ hl) (.lst (.inl (.inl upd_same)) ((cutE_all r1 lo hi).mono (same_upd (e.free hl))))⟩
  · cases hf
    obtain ⟨p, xs, rfl, h1, r1⟩ := hx.tupE e
    refine sl_tupA pins s σ H _ v vl vu lo hi sl Q I rx hs pl pu ⟨p, xs, rfl, SqT.same e h1, fun hw => ?_, fun _ l hl => q _ _ _ (.new e _ hl) (.tup (.inl (.inl upd_same)) ((cutE_all r1 lo hi).mono (same_upd (e.free hl))))⟩
    refine q _ _ _ (.refl e) (.tup h1 ?_)
    have e1 := cutE_all r1 lo hi
    have e2 : cutV xs lo hi = xs := by
      unfold cutV
      rw [hw.1, hw.2]
      simp
    rw [e2] at e1
    exact e1
  · split at hf <;> cases hf
    rename_i hz
    have e1 := hx.strE
    subst e1
    exact C8.sl_txt pins s σ H _ v vl vu lo hi sl Q I rx hs pl pu ⟨_, rfl, most_line hz, q _ _ F₁ (.refl e) (.str _)⟩
  · cases hf

/-! ### list, tuple -/
def rListOf (S : Sx) : List V → Hp → VK → Prop := fun xs H Q => ∃ F d ds, Same F H ∧ PkAll S F H xs [d] ∧ asList d = some ds ∧ ∀ p ys, H p = none → RpAll S F ys ds → Q (.ref p) (upd H p (.lst ys))
theorem c_list : CallR X (.type "list") (rListOf (X.sx W)) := by
  rintro pins s σ H xs us Q I rx ⟨F₁, d, ds, e, hx, hf, q⟩
  obtain ⟨x, rfl, hx1⟩ := hx.one
  clear hx
  unfold asList at hf
  split at hf <;> cases hf
  · obtain ⟨p, ys, rfl, h1, r1⟩ := hx1.lstE e
    exact call_list_of pins s σ H _ us Q I rx ⟨p, ys, rfl, .inl h1, fun l hl => q l ys hl r1⟩
  · obtain ⟨p, ys, rfl, h1, r1⟩ := hx1.tupE e
    exact call_list_of pins s σ H _ us Q I rx ⟨p, ys, rfl, .inr (SqT.same e h1), fun l hl => q l ys hl r1⟩
theorem on1_some {f : PyData → Option PyData} {ds : List PyData} {r : PyData} (h : on1 f ds = some r) : ∃ d, ds = [d] ∧ f d = some r := by
  unfold on1 at h
  split at h
  · exact ⟨_, rfl, h⟩
  · cases h
theorem on2_some {f : PyData → PyData → Option PyData} {ds : List PyData} {r : PyData} (h : on2 f ds = some r) : ∃ d e, ds = [d, e] ∧ f d e = some r := by
  unfold on2 at h
  split at h
  · exact ⟨_, _, rfl, h⟩
  · cases h
theorem c_tuple : CallR X (.type "tuple") (rCa (X.sx W) (on1 tupleB)) := by
  rintro pins s σ H xs us Q I rx ⟨F₁, ds, r, e, hx, hf, q⟩
  obtain ⟨d, rfl, hf1⟩ := on1_some hf
  obtain ⟨x, rfl, hx1⟩ := hx.one
  unfold tupleB at hf1
  split at hf1 <;> cases hf1
  · obtain ⟨p, ys, rfl, h1, r1⟩ := hx1.lstE e
    exact call_tuple_of pins s σ H _ us Q I rx ⟨p, ys, rfl, .inl ⟨h1, fun l hl => q _ _ _ (.new e _ hl) (.tup (.inl (.inl upd_same)) (r1.mono (same_upd (e.free hl))))⟩⟩
  · obtain ⟨p, ys, rfl, h1, r1⟩ := hx1.tupE e
    exact call_tuple_of pins s σ H _ us Q I rx ⟨p, ys, rfl, .inr ⟨SqT.same e h1, q _ _ _ (.refl e) (.tup h1 r1)⟩⟩

/-! ### len, abs, int, str, sum, max, min -/
theorem c_len : CallR X (.builtin "len") (rCa (X.sx W) (on1 lenB)) := by
  rintro pins s σ H xs us Q I rx ⟨F₁, ds, r, e, hx, hf, q⟩
  obtain ⟨d, rfl, hf1⟩ := on1_some hf
  obtain ⟨x, rfl, hx1⟩ := hx.one
  unfold lenB at hf1
  split at hf1
  · cases hf1
    obtain ⟨p, ys, rfl, h1, r1⟩ := hx1.lstE e
    exact call_len_seq pins s σ H _ us Q I rx ⟨p, ys, rfl, .inl h1, by rw [r1.length]; exact q _ H F₁ (.refl e) (.int _)⟩
  · cases hf1
    obtain ⟨p, ys, rfl, h1, r1⟩ := hx1.tupE e
    exact call_len_seq pins s σ H _ us Q I rx ⟨p, ys, rfl, .inr (SqT.same e h1), by rw [r1.length]; exact q _ H F₁ (.refl e) (.int _)⟩
  · split at hf1 <;> cases hf1
    rename_i hz
    have e1 := hx1.strE
    subst e1
    exact call_len_str pins s σ H _ us Q I rx ⟨_, rfl, most_line hz, q _ H F₁ (.refl e) (.int _)⟩
  · obtain ⟨kvs, h1, rfl⟩ := Option.map_eq_some_iff.mp hf1
    rw [undict_some h1] at hx1
    obtain ⟨a, o, rfl, ha, rd⟩ := hx1.dicE e
    obtain ⟨u, rfl, ru⟩ := vals1 rx
    cases ru
    rcases rd.two ha with ⟨ks, ha, r1, _⟩ | ⟨ks, ha, r1, _⟩
    · exact d_len I ha fun t s' I' => ⟨.int ks.length, H, I', ⟨t, rfl⟩, by rw [r1.length]; exact q _ H F₁ (.refl e) (.int _)⟩
    · obtain ⟨z, hd, xs, pr, dd⟩ := raw_of I e (raw_at I ha) r1
      obtain ⟨o', es, ep, g1, g2, g3, g4, g5, g6⟩ := dd
      have hn : es.size = kvs.length := by
        rw [size_of_entries g4, ← r1.length]
        exact (Paired.length pr).symm
      refine PyProof.Rows.call_len_slot (n := kvs.length) ⟨o', g1, g2.1⟩ PySem.F.slot_dict_len (fun Q' hq => ?_) (by omega) (by have := r1.length; rw [sizeLine_eq] at z; omega) ?_
      · refine call_len_raw hd (es := es) (ep := ep) ⟨o', g1, g2, g3⟩ ?_
        rw [hn]; exact hq
      · exact ⟨.int _, H, I.tok _, ⟨_, rfl⟩, q _ H F₁ (.refl e) (.int _)⟩
  · cases hf1
theorem c_abs : CallR X (.builtin "abs") (rCa (X.sx W) (on1 absB)) := by
  rintro pins s σ H xs us Q I rx ⟨F₁, ds, r, e, hx, hf, q⟩
  obtain ⟨d, rfl, hf1⟩ := on1_some hf
  obtain ⟨x, rfl, hx1⟩ := hx.one
  unfold absB at hf1
  split at hf1 <;> cases hf1
  have e1 := hx1.intE
  subst e1
  exact call_abs pins s σ H _ us Q I rx ⟨_, rfl, q _ H F₁ (.refl e) (.int _)⟩
theorem c_int : CallR X (.type "int") (rCa (X.sx W) (on1 intB)) := by
  rintro pins s σ H xs us Q I rx ⟨F₁, ds, r, e, hx, hf, q⟩
  obtain ⟨d, rfl, hf1⟩ := on1_some hf
  obtain ⟨x, rfl, hx1⟩ := hx.one
  unfold intB at hf1
  split at hf1
  · cases hf1
    have e1 := hx1.intE
    subst e1
    exact call_int1 pins s σ H _ us Q I rx (.inl ⟨_, rfl, q _ H F₁ (.refl e) (.int _)⟩)
  · cases hf1
    have e1 := hx1.blE
    subst e1
    exact call_int1 pins s σ H _ us Q I rx (.inr ⟨_, rfl, q _ H F₁ (.refl e) (.int _)⟩)
  · split at hf1
    · rename_i hz
      obtain ⟨n, h1, rfl⟩ := Option.map_eq_some_iff.mp hf1
      have e1 := hx1.strE
      subst e1
      exact call_int_str pins s σ H _ us Q I rx ⟨_, n, rfl, h1, hz, q _ H F₁ (.refl e) (.int _)⟩
    · cases hf1
  · cases hf1
theorem c_str : CallR X (.type "str") (rCa (X.sx W) (on1 strB)) := by
  rintro pins s σ H xs us Q I rx ⟨F₁, ds, r, e, hx, hf, q⟩
  obtain ⟨d, rfl, hf1⟩ := on1_some hf
  obtain ⟨x, rfl, hx1⟩ := hx.one
  unfold strB at hf1
  split at hf1
  · split at hf1 <;> cases hf1
    rename_i hz
    have e1 := hx1.intE
    subst e1
    exact call_str_int pins s σ H _ us Q I rx ⟨_, rfl, hz, q _ H F₁ (.refl e) (.str _)⟩
  · cases hf1
theorem ints_rp {S : Sx} {F : Hp} : ∀ {ds : List PyData} {ns : List Int}, intsOf ds = some ns → ∀ {vs : List V}, RpAll S F vs ds → vs = ns.map V.int
  | [], _, h, _, r => by
    cases r
    simp [intsOf] at h
    subst h; rfl
  | d :: ds, ns, h, _, .cons h1 r => by
    unfold intsOf at h
    split at h
    · rename_i z; cases z
    · rename_i i r' z
      cases z
      split at h
      · rename_i is h2
        cases h
        rw [h1.intE, ints_rp h2 r]; rfl
      · cases h
    · cases h
theorem ints_all {S : Sx} {F : Hp} : ∀ ns : List Int, RpAll S F (ns.map V.int) (ns.map PyData.int)
  | [] => .nil
  | n :: ns => .cons (.int n) (ints_all ns)
theorem intsIn_some {x : PyData} {ns : List Int} (h : intsIn x = some ns) : ∃ xs, x = .list xs ∧ intsOf xs = some ns := by
  unfold intsIn at h
  split at h
  · exact ⟨_, rfl, h⟩
  · cases h
theorem ints_at {S : Sx} {F H : Hp} (e : Same F H) {x : V} {d : PyData} {ns : List Int} (h : intsIn d = some ns) (hx : Pk S F H x d) : ∃ p, x = .ref p ∧ SqL S.K H p (ns.map V.int) := by
  obtain ⟨xs, rfl, h2⟩ := intsIn_some h
  obtain ⟨p, ys, rfl, h1, r1⟩ := hx.lstE e
  exact ⟨p, rfl, by rw [← ints_rp h2 r1]; exact h1⟩
theorem c_sum (hc : X.calm = true) : CallR X (.builtin "sum") (rCa (X.sx W) (on1 sumB)) := by
  rintro pins s σ H xs us Q I rx ⟨F₁, ds, r, e, hx, hf, q⟩
  obtain ⟨d, rfl, hf1⟩ := on1_some hf
  obtain ⟨x, rfl, hx1⟩ := hx.one
  obtain ⟨ns, h1, rfl⟩ := Option.map_eq_some_iff.mp hf1
  obtain ⟨p, rfl, h2⟩ := ints_at e h1 hx1
  exact cr_sum hc pins s σ H _ us Q I rx ⟨p, ns, rfl, h2, q _ H F₁ (.refl e) (.int _)⟩
theorem foldl_max_ge : ∀ (xs : List Int) (a : Int), a ≤ xs.foldl max a ∧ (∀ y ∈ xs, y ≤ xs.foldl max a) ∧ (xs.foldl max a = a ∨ xs.foldl max a ∈ xs)
  | [], a => ⟨Int.le_refl _, fun _ h => by simp at h, .inl rfl⟩
  | x :: xs, a => by
    obtain ⟨h1, h2, h3⟩ := foldl_max_ge xs (max a x)
    simp only [List.foldl_cons]
    refine ⟨by omega, fun y hy => ?_, ?_⟩
    · rcases List.mem_cons.mp hy with rfl | hy
      · omega
      · exact h2 y hy
    · rcases h3 with h3 | h3
      · by_cases hax : x ≤ a
        · left; rw [h3]; omega
        · right; rw [h3]
          have : max a x = x := by omega
          rw [this]; exact List.mem_cons_self
      · exact .inr (List.mem_cons_of_mem _ h3)
theorem foldl_min_le : ∀ (xs : List Int) (a : Int), xs.foldl min a ≤ a ∧ (∀ y ∈ xs, xs.foldl min a ≤ y) ∧ (xs.foldl min a = a ∨ xs.foldl min a ∈ xs)
  | [], a => ⟨Int.le_refl _, fun _ h => by simp at h, .inl rfl⟩
  | x :: xs, a => by
    obtain ⟨h1, h2, h3⟩ := foldl_min_le xs (min a x)
    simp only [List.foldl_cons]
    refine ⟨by omega, fun y hy => ?_, ?_⟩
    · rcases List.mem_cons.mp hy with rfl | hy
      · omega
      · exact h2 y hy
    · rcases h3 with h3 | h3
      · by_cases hax : a ≤ x
        · left; rw [h3]; omega
        · right; rw [h3]
          have : min a x = x := by omega
          rw [this]; exact List.mem_cons_self
      · exact .inr (List.mem_cons_of_mem _ h3)
theorem maxL_is {ns : List Int} {m : Int} (h : maxL ns = some m) : 0 < ns.length ∧ m ∈ ns ∧ ∀ y ∈ ns, y ≤ m := by
  cases ns with
  | nil => cases h
  | cons x xs =>
    cases h
    obtain ⟨h1, h2, h3⟩ := foldl_max_ge xs x
    refine ⟨by simp, ?_, fun y hy => ?_⟩
    · rcases h3 with h3 | h3
      · rw [h3]; exact List.mem_cons_self
      · exact List.mem_cons_of_mem _ h3
    · rcases List.mem_cons.mp hy with rfl | hy
      · exact h1
      · exact h2 y hy
theorem minL_is {ns : List Int} {m : Int} (h : minL ns = some m) : 0 < ns.length ∧ m ∈ ns ∧ ∀ y ∈ ns, m ≤ y := by
  cases ns with
  | nil => cases h
  | cons x xs =>
    cases h
    obtain ⟨h1, h2, h3⟩ := foldl_min_le xs x
    refine ⟨by simp, ?_, fun y hy => ?_⟩
    · rcases h3 with h3 | h3
      · rw [h3]; exact List.mem_cons_self
      · exact List.mem_cons_of_mem _ h3
    · rcases List.mem_cons.mp hy with rfl | hy
      · exact h1
      · exact h2 y hy
theorem c_max (hc : X.calm = true) : CallR X (.builtin "max") (rCa (X.sx W) (on1 maxB)) := by
  rintro pins s σ H xs us Q I rx ⟨F₁, ds, r, e, hx, hf, q⟩
  obtain ⟨d, rfl, hf1⟩ := on1_some hf
  obtain ⟨x, rfl, hx1⟩ := hx.one
  obtain ⟨m, h1, rfl⟩ := Option.map_eq_some_iff.mp hf1
  obtain ⟨ns, h1, h3⟩ := Option.bind_eq_some_iff.mp h1
  obtain ⟨p, rfl, h2⟩ := ints_at e h1 hx1
  obtain ⟨k1, k2, k3⟩ := maxL_is h3
  refine cr_max hc pins s σ H _ us Q I rx ⟨p, ns, rfl, h2, k1, fun m' g1 g2 => ?_⟩
  have : m' = m := by
    have a := k3 m' g1
    have b := g2 m k2
    omega
  subst this
  exact q _ H F₁ (.refl e) (.int _)
theorem c_min (hc : X.calm = true) : CallR X (.builtin "min") (rCa (X.sx W) (on1 minB)) := by
  rintro pins s σ H xs us Q I rx ⟨F₁, ds, r, e, hx, hf, q⟩
  obtain ⟨d, rfl, hf1⟩ := on1_some hf
  obtain ⟨x, rfl, hx1⟩ := hx.one
  obtain ⟨m, h1, rfl⟩ := Option.map_eq_some_iff.mp hf1
  obtain ⟨ns, h1, h3⟩ := Option.bind_eq_some_iff.mp h1
  obtain ⟨p, rfl, h2⟩ := ints_at e h1 hx1
  obtain ⟨k1, k2, k3⟩ := minL_is h3
  refine cr_min hc pins s σ H _ us Q I rx ⟨p, ns, rfl, h2, k1, fun m' g1 g2 => ?_⟩
  have : m' = m := by
    have a := k3 m' g1
    have b := g2 m k2
    omega
  subst this
  exact q _ H F₁ (.refl e) (.int _)
theorem c_max2 (hc : X.calm = true) : CallR X (.builtin "max") (rCa (X.sx W) (on2 max2B)) := by
  rintro pins s σ H xs us Q I rx ⟨F₁, ds, r, e, hx, hf, q⟩
  obtain ⟨d, d', rfl, hf1⟩ := on2_some hf
  obtain ⟨x, y, rfl, hx1, hx2⟩ := hx.two
  unfold max2B at hf1
  split at hf1 <;> cases hf1
  have e1 := hx1.intE; have e2 := hx2.intE
  subst e1 e2
  exact call_max2 hc pins s σ H _ us Q I rx ⟨_, _, rfl, q _ H F₁ (.refl e) (.int _)⟩
theorem c_min2 (hc : X.calm = true) : CallR X (.builtin "min") (rCa (X.sx W) (on2 min2B)) := by
  rintro pins s σ H xs us Q I rx ⟨F₁, ds, r, e, hx, hf, q⟩
  obtain ⟨d, d', rfl, hf1⟩ := on2_some hf
  obtain ⟨x, y, rfl, hx1, hx2⟩ := hx.two
  unfold min2B at hf1
  split at hf1 <;> cases hf1
  have e1 := hx1.intE; have e2 := hx2.intE
  subst e1 e2
  exact call_min2 hc pins s σ H _ us Q I rx ⟨_, _, rfl, q _ H F₁ (.refl e) (.int _)⟩

/-! ### sorted -/
theorem sortI_eq {ns ms : List Int} (h1 : ms.Perm ns) (h2 : ms.Pairwise (· ≤ ·)) : ms = sortI ns := by
  have p : (sortI ns).Perm ns := List.mergeSort_perm _ _
  have s : (sortI ns).Pairwise (· ≤ ·) := by
    have := List.pairwise_mergeSort (le := fun a b : Int => decide (a ≤ b)) (fun a b c h1 h2 => by simp at *; omega) (fun a b => by simp; omega) ns
    exact this.imp fun h => of_decide_eq_true h
  exact (h1.trans p.symm).eq_of_pairwise (fun a b _ _ h1 h2 => Int.le_antisymm h1 h2) h2 s
theorem keys_num {S : Sx} {F : Hp} : ∀ {kvs : List (NK × PyData)} {ns : List Int}, numKeys kvs = some ns → ∀ {ks : List (Key × V)}, RpK S F ks kvs → ks.map (·.1) = ns.map Sum.inl
  | [], _, h, _, r => by
    cases r
    simp [numKeys] at h
    subst h; rfl
  | (k, d) :: kvs, ns, h, _, .cons (k := k0) e1 _ r => by
    unfold numKeys at h
    split at h
    · rename_i z; cases z
    · rename_i i d' r' z
      cases z
      split at h
      · rename_i is h2
        cases h
        have e2 : k0 = .inl i := by
          cases k0 <;> simp [nkOf] at e1
          rw [e1]
        rw [List.map_cons, keys_num h2 r, e2]; rfl
      · cases h
    · cases h
end
end VI
set_option Elab.async false
set_option linter.all false
set_option maxRecDepth 100000
set_option maxHeartbeats 4000000
/-! set(a list of ints): a set that sorted can read (turned from the one of tuples). -/
namespace L2
open PySem PySem.Spec PyProof.Rows
section
variable {P : Program} {w : World} {A : Around} {E : Value → Shared → Prop} {s : Shared}
set_option maxRecDepth 100000 in
set_option maxHeartbeats 3200000 in
theorem set_listI {l : Addr} {items : Array Value} (ns : List Int) {Q : Value → Shared → Prop} (hh : A.handled = none) (hl : s.heap.IsList l items) (hit : IntsAre items.toList ns) (hb : ns.length + 1 < scanBound)
    (h : ∀ (h' : Heap) (tk c : Nat), SetR w h' s.heap.objs.size (fun j => decide (j ∈ ns)) c → c ≤ ns.length → (∀ b o, s.heap.get? b = some o → h'.get? b = some o) → Q (.ref s.heap.objs.size) { s with heap := h', toks := tk }) :
    wpAny (model P w) A (call (.type "set") [.ref l]) Q E s := by
  have hisz : items.size = ns.length := by
    have q := IntsAre.length hit
    rw [Array.length_toList] at q
    exact q
  obtain ⟨c, tl, hmro⟩ := F.called_set.mro
  have hmade := F.called_set.made
  have hsub := F.called_set.sub
  refine wpAny_call (codeAny_of_tree ?_)
  show wpAny _ _ (callAny (.type "set") _) _ _ _
  refine wpAny_pure ⟨Code.quiet_builtin _ (by decide +kernel), codeAny_builtin F.entry_type_call ?_⟩
  rw [Around.under_plain (weight_type_call_type "set" [.ref l] []) rfl]
  have h1 := F.called_set.notType
  have h2 := F.called_set.canCreate
  have hct := F.typeCall_set_1 (.ref l)
  repeat (any_goals (first | assumption | wp_step))

  refine codeAny_mono (code_set_led1 (.ref l) (E := E) (Q₁ := fun obj s₁ => obj = .ref s.heap.objs.size ∧ s₁ = { s with heap := s.heap.push { cls := .type "set", dict := none, data := .set #[] 0 (.fresh 0 0 (!w.params.followText "set-order")) } }) ⟨rfl, rfl⟩) fun r s₁ hr => ?_
  cases r with
  | error e => exact hr
  | ok fl =>
    cases fl with
    | ret obj =>
      obtain ⟨rfl, rfl⟩ := hr
      have hS : (s.heap.push { cls := .type "set", dict := none, data := .set #[] 0 (.fresh 0 0 (!w.params.followText "set-order")) }).get? s.heap.objs.size = some { cls := .type "set", dict := none, data := .set #[] 0 (.fresh 0 0 (!w.params.followText "set-order")) } := Heap.get?_push_size _ rfl
      have hT : Shared.TypeIs { s with heap := s.heap.push { cls := .type "set", dict := none, data := .set #[] 0 (.fresh 0 0 (!w.params.followText "set-order")) } } (.ref s.heap.objs.size) "set" := ⟨_, hS, rfl⟩
      have hli := F.called_set.init.lookup
      have hbi := F.called_set.init.bind (.ref s.heap.objs.size)
      repeat (any_goals (first | assumption | wp_step))

      refine codeAny_mono (codeAny_call_builtin (R := wants (fun r s₂ => r = .none ∧ ∃ h' tk c, s₂ = { s with heap := h', toks := tk } ∧ SetR w h' s.heap.objs.size (fun j => decide (j ∈ ns)) c ∧ c ≤ ns.length ∧
          (∀ b o, s.heap.get? b = some o → h'.get? b = some o)) E) F.called_set.init.plain F.entry_set_init (check_set_init_1 hT ?_)) fun r₂ s₂ hr₂ => ?_
      · obtain ⟨ol, hol, hcl, nl, hdl⟩ := hl
        obtain ⟨ocls, odict, odata, oslots⟩ := ol
        simp only at hcl hdl
        subst hcl; subst hdl
        have hol' : (s.heap.push { cls := .type "set", dict := none, data := .set #[] 0 (.fresh 0 0 (!w.params.followText "set-order")) }).get? l = some { cls := .type "list", dict := odict, data := .seq items nl, slots := oslots } := Heap.get?_push_of_some _ hol
        have hsls := F.sub_list_set
        have hslf := F.sub_list_frozenset
        have hne : (Value.type "list" == Value.type "dict") = false := by decide
        have hl1 : (s.heap.push { cls := .type "set", dict := none, data := .set #[] 0 (.fresh 0 0 (!w.params.followText "set-order")) }).IsList l items := ⟨_, hol', rfl, nl, rfl⟩
        unfold Builtin.«set.__init__» noKeywords Builtin.Frozenset.updateFrom
        generalize hPI : pyIter = PI
        wp_walk
        subst hPI

        refine wpAny_pyIter_list hl1 ?_
        refine wpAny_bind (wpAny_runValue ?_)
        have hlS : l < s.heap.objs.size := Heap.lt_size hol
        have hh3 : A.in1.in1.in1.handled = none := by simp [hh]
        have hz1 : (s.heap.push { cls := .type "set", dict := none, data := .set #[] 0 (.fresh 0 0 (!w.params.followText "set-order")) }).objs.size = s.heap.objs.size + 1 := Heap.size_push ..
        have hneI : l ≠ (s.heap.push { cls := .type "set", dict := none, data := .set #[] 0 (.fresh 0 0 (!w.params.followText "set-order")) }).objs.size := by
          rw [Heap.size_push]; exact Nat.ne_of_lt (Nat.lt_succ_of_lt hlS)
        have hSf : s.heap.objs.size ∉ [(s.heap.push { cls := .type "set", dict := none, data := .set #[] 0 (.fresh 0 0 (!w.params.followText "set-order")) }).objs.size, l] := by
          rw [Heap.size_push]; simp only [List.mem_cons, List.mem_singleton, List.not_mem_nil, or_false, not_or]
          exact ⟨Nat.ne_of_lt (Nat.lt_succ_self _), Nat.ne_of_gt hlS⟩
        have hval : ∀ (i : Nat) (v : Value), items[i]? = some v → ∃ k t, ns[i]? = some k ∧ v = .int k t := fun i v hv => by
          have hi : i < ns.length := by rw [← hisz]; exact (Array.getElem?_eq_some_iff.mp hv).1
          obtain ⟨t, e⟩ := PyProof.Rows.IntsAre.int_at hit i v (by rw [Array.getElem?_toList]; exact hv)
          refine ⟨ns[i], t, List.getElem?_eq_getElem hi, ?_⟩
          rw [e, List.getD_eq_getElem?_getD, List.getElem?_eq_getElem hi] <;> rfl
        refine set_update_ints ((Walks.list hh3 _ l hneI items).toS) s.heap.objs.size
          hSf ns hisz hb hval (items.size - 0) 0 _ (by omega) (Nat.zero_le _)
          ⟨⟨_, Heap.get?_push_size _ rfl, rfl, rfl⟩, (hl1.push _)⟩ ?hS0 ?hR
        case hS0 =>
          have hget : ((s.heap.push { cls := .type "set", dict := none, data := .set #[] 0 (.fresh 0 0 (!w.params.followText "set-order")) }).push { cls := .type "list_iterator", data := .fields #[.ref l, .int 0 0] }).get? s.heap.objs.size
              = some { cls := .type "set", dict := none, data := .set #[] 0 (.fresh 0 0 (!w.params.followText "set-order")) } := Heap.get?_push_of_some _ hS
          exact ⟨0, Nat.le_refl 0, setR_new_at hget⟩
        case hR =>
          intro s' c' hm hc' hS'
          obtain ⟨h', g2, d', tk', os'⟩ := s'
          have eg : g2 = s.gens := hm.gens
          have ed : d' = s.drawn := hm.drawn
          have eo : os' = s.os := hm.os
          subst eg; subst ed; subst eo
          show wpAny _ _ _ _ _ _
          refine wpAny_pure ?_
          show wpAny _ _ (ret Value.none) _ _ _
          rw [hisz] at hc'
          refine wpAny_pure ⟨rfl, h', tk', c', rfl, hS', hc', fun b o e => ?_⟩
          have hb0 : b < s.heap.objs.size := Heap.lt_size e
          have hb1 : b ≠ s.heap.objs.size := Nat.ne_of_lt hb0
          have hb2 : b ≠ (s.heap.push { cls := .type "set", dict := none, data := .set #[] 0 (.fresh 0 0 (!w.params.followText "set-order")) }).objs.size := by
            rw [Heap.size_push]; exact Nat.ne_of_lt (Nat.lt_succ_of_lt hb0)
          exact hm.heap b o (by simp only [List.mem_cons, List.mem_singleton, List.not_mem_nil, or_false, not_or]; exact ⟨hb1, hb2⟩) (Heap.get?_push_of_some _ (Heap.get?_push_of_some _ e))

      · cases r₂ with
        | error e => exact hr₂
        | ok fl₂ =>
          cases fl₂ with
          | ret r =>
            obtain ⟨rfl, h', tk, c', rfl, hS', hc', hk'⟩ := hr₂
            repeat (any_goals (first | assumption | wp_step))
            exact h _ _ _ hS' hc' hk'
          | _ => exact hr₂.elim
    | _ => exact hr.elim

end
end L2
set_option Elab.async false
set_option linter.all false
set_option autoImplicit false
set_option maxRecDepth 20000
/-! More built-in functions and methods by values. -/
namespace VI
open PySem PySem.Spec PyProof.Rows L2
section
variable {X : Cx} {W : WX}

/-! tuples of numbers sorted -/
theorem paired_perm {α β : Type} {P : α → β → Prop} {xs ys : List α} (h : ys.Perm xs) : ∀ {ns : List β}, Paired P xs ns → ∃ ms, ms.Perm ns ∧ Paired P ys ms := by
  induction h with
  | nil => intro ns p; cases p; exact ⟨[], .nil, .nil⟩
  | cons x _ ih =>
    intro ns p
    cases p with
    | cons h1 h2 =>
      obtain ⟨ms, h3, h4⟩ := ih h2
      exact ⟨_ :: ms, h3.cons _, .cons h1 h4⟩
  | swap x y l =>
    intro ns p
    cases p with
    | cons h1 h2 =>
      cases h2 with
      | cons h2 h3 => exact ⟨_, List.Perm.swap _ _ _, .cons h2 (.cons h1 h3)⟩
  | trans _ _ ih1 ih2 =>
    intro ns p
    obtain ⟨ms, h3, h4⟩ := ih2 p
    obtain ⟨ks, h5, h6⟩ := ih1 h4
    exact ⟨ks, h5.trans h3, h6⟩
theorem code_inj {B : Int} : ∀ {a b : List Int}, a.length = b.length → TS.Bd B a → TS.Bd B b → TS.code B a = TS.code B b → a = b
  | [], [], _, _, _, _ => rfl
  | x :: a, y :: b, hl, ha, hb, h => by
    have hl' : a.length = b.length := by simpa using hl
    have exy : x = y := by
      by_cases h1 : x < y
      · have := TS.code_lt hl' ha.tail hb.tail h1
        omega
      · by_cases h2 : y < x
        · have := TS.code_lt hl'.symm hb.tail ha.tail h2
          omega
        · omega
    subst exy
    have h' : TS.code B a = TS.code B b := by
      simp only [TS.code, hl'] at h
      omega
    rw [code_inj hl' ha.tail hb.tail h']
  | [], _ :: _, hl, _, _, _ => by simp at hl
  | _ :: _, [], hl, _, _, _ => by simp at hl
theorem foldl_max_mem : ∀ (xs : List Int) (a : Int), a ≤ xs.foldl max a ∧ ∀ y ∈ xs, y ≤ xs.foldl max a
  | [], a => ⟨Int.le_refl _, fun _ h => by simp at h⟩
  | x :: xs, a => by
    obtain ⟨h1, h2⟩ := foldl_max_mem xs (max a x)
    simp only [List.foldl_cons]
    refine ⟨by omega, fun y hy => ?_⟩
    rcases List.mem_cons.mp hy with rfl | hy
    · omega
    · exact h2 y hy
theorem tupsOk_of {nss : List (List Int)} (h : tupsOk nss = true) : nss.length < 64 ∧ ∃ d, 1 ≤ d ∧ ∀ t ∈ nss, t.length = d ∧ TS.Bd (topOf nss) t := by
  have bd : ∀ t ∈ nss, ∀ i ∈ t, i < topOf nss := fun t ht i hi => by
    have := (foldl_max_mem nss.flatten 0).2 i (List.mem_flatten.mpr ⟨t, ht, hi⟩)
    unfold topOf
    omega
  unfold tupsOk at h
  rw [Bool.and_eq_true, decide_eq_true_eq] at h
  refine ⟨h.1, ?_⟩
  have h := h.2
  cases nss with
  | nil => exact ⟨1, Nat.le_refl _, fun t ht => by simp at ht⟩
  | cons t r =>
    simp only at h
    rw [Bool.and_eq_true, decide_eq_true_eq, List.all_eq_true] at h
    refine ⟨t.length, h.1, fun u hu => ?_⟩
    have h2 := h.2 u hu
    rw [Bool.and_eq_true, decide_eq_true_eq, List.all_eq_true] at h2
    exact ⟨h2.1, fun i hi => ⟨of_decide_eq_true (h2.2 i hi), bd u hu i hi⟩⟩
theorem sortT_eq {nss mss : List (List Int)} (ok : tupsOk nss = true) (h1 : mss.Perm nss) (h2 : mss.Pairwise fun a b => TS.code (topOf nss) a ≤ TS.code (topOf nss) b) : mss = sortT nss := by
  obtain ⟨_, d, hd, hb⟩ := tupsOk_of ok
  have p : (sortT nss).Perm nss := List.mergeSort_perm _ _
  have s : (sortT nss).Pairwise fun a b => TS.code (topOf nss) a ≤ TS.code (topOf nss) b := by
    have := List.pairwise_mergeSort (le := fun a b : List Int => decide (TS.code (topOf nss) a ≤ TS.code (topOf nss) b)) (fun a b c h1 h2 => by simp at *; omega) (fun a b => by simp; omega) nss
    exact this.imp fun h => of_decide_eq_true h
  refine (h1.trans p.symm).eq_of_pairwise (fun a b ha hb' h1' h2' => ?_) h2 s
  have qa := hb a (h1.mem_iff.mp ha)
  have qb := hb b (p.mem_iff.mp hb')
  exact code_inj (qa.1.trans qb.1.symm) qa.2 qb.2 (Int.le_antisymm h1' h2')
theorem intsOf_eq : ∀ {ds : List PyData} {ns : List Int}, intsOf ds = some ns → ds = ns.map .int
  | [], _, h => by cases h; rfl
  | d :: ds, _, h => by
    unfold intsOf at h
    split at h
    · rename_i e; cases e
    · rename_i i r e
      cases e
      split at h
      · rename_i is h2
        cases h
        rw [intsOf_eq h2]
        rfl
      · cases h
    · cases h
theorem tups_rp {S : Sx} {F : Hp} : ∀ {ds : List PyData} {nss : List (List Int)} {xs : List V}, tupsOf ds = some nss → RpAll S F xs ds → ds = nss.map tupI ∧ Paired (fun x n => TupI S.K F x n ∧ Rp S F x (tupI n)) xs nss
  | [], _, _, h, r => by
    cases h
    cases r
    exact ⟨rfl, .nil⟩
  | d :: ds, nss, _, h, r => by
    cases r with
    | cons r1 r2 =>
      unfold tupsOf at h
      split at h
      · rename_i e; cases e
      · rename_i ts r' e
        cases e
        split at h
        · rename_i t tss h1 h2
          cases h
          obtain ⟨e1, p1⟩ := tups_rp h2 r2
          have e2 := intsOf_eq h1
          obtain ⟨a, ys, ex, h3, h4⟩ := r1.tupE
          have e3 := ints_rp h1 h4
          rw [e3] at h3
          subst e2
          refine ⟨by rw [e1]; rfl, .cons ⟨⟨a, ex, h3⟩, r1⟩ p1⟩
        · cases h
      · cases h
theorem paired_all {S : Sx} {F : Hp} {P : V → List Int → Prop} (hP : ∀ x n, P x n → Rp S F x (tupI n)) : ∀ {xs : List V} {nss : List (List Int)}, Paired P xs nss → RpAll S F xs (nss.map tupI)
  | _, _, .nil => .nil
  | _, _, .cons h r => .cons (hP _ _ h) (paired_all hP r)
theorem paired_pw {P : V → List Int → Prop} {R : List Int → List Int → Prop} : ∀ {xs : List V} {nss : List (List Int)}, Paired P xs nss → xs.Pairwise (fun x y => ∀ n m, P x n → P y m → R n m) → nss.Pairwise R
  | _, _, .nil, _ => .nil
  | x :: xs, n :: nss, .cons h r, pw => by
    obtain ⟨h1, h2⟩ := List.pairwise_cons.mp pw
    refine List.pairwise_cons.mpr ⟨fun m hm => ?_, paired_pw r h2⟩
    obtain ⟨y, hy, hP⟩ : ∃ y ∈ xs, P y m := by
      clear pw h1 h2 h
      induction r with
      | nil => simp at hm
      | cons h3 _ ih =>
        rcases List.mem_cons.mp hm with rfl | hm
        · exact ⟨_, List.mem_cons_self, h3⟩
        · obtain ⟨y, hy, hP⟩ := ih hm
          exact ⟨y, List.mem_cons_of_mem _ hy, hP⟩
    exact h1 y hy n m h hP
/-! ### sorted -/
theorem c_sorted (hc : X.calm = true) : CallR X (.builtin "sorted") (rCa (X.sx W) (on1 sortedB)) := by
  rintro pins s σ H xs us Q I rx ⟨F₁, ds, r, e, hx, hf, q⟩
  obtain ⟨d, rfl, hf1⟩ := on1_some hf
  obtain ⟨x, rfl, hx1⟩ := hx.one
  unfold sortedB at hf1
  split at hf1
  · rename_i zs
    split at hf1
    rotate_left
    · obtain ⟨nss, h1, h2⟩ := Option.bind_eq_some_iff.mp hf1
      split at h2 <;> cases h2
      rename_i hok
      obtain ⟨p, ys, rfl, hs, ra⟩ := hx1.lstE e
      obtain ⟨e1, pr⟩ := tups_rp h1 ra
      obtain ⟨h64, d, hd, hb⟩ := tupsOk_of hok
      have memP : ∀ {xs : List V} {nss : List (List Int)}, Paired (fun x n => TupI X.K F₁ x n ∧ Rp (X.sx W) F₁ x (tupI n)) xs nss → ∀ x ∈ xs, ∃ n ∈ nss, TupI X.K F₁ x n := by
        intro xs nss r
        induction r with
        | nil => intro x hx; simp at hx
        | cons h3 _ ih =>
          intro x hx
          rcases List.mem_cons.mp hx with rfl | hx
          · exact ⟨_, List.mem_cons_self, h3.1⟩
          · obtain ⟨n, hn, h⟩ := ih x hx
            exact ⟨n, List.mem_cons_of_mem _ hn, h⟩
      have up : ∀ x n, TupI X.K F₁ x n → TupI X.K H x n := fun x n ⟨t, e2, h⟩ => ⟨t, e2, SqT.same e h⟩
      have hlen : ys.length = nss.length := by rw [ra.length, e1, List.length_map]
      refine cr_sortT (d := d) (B := topOf nss) hd pins s σ H _ us Q I rx ⟨p, ys, rfl, hs, by omega, fun x hx => ?_, fun zs l hp hsrt hl => ?_⟩
      · obtain ⟨n, hn, h⟩ := memP pr x hx
        exact ⟨n, up x n h, hb n hn⟩
      · obtain ⟨mss, hm1, hm2⟩ := paired_perm hp pr
        have := sortT_eq hok hm1 (paired_pw hm2 (hsrt.imp fun {x y} h n m hn hm => h n m (up x n hn.1) (up y m hm.1)))
        subst this
        exact q _ _ _ (.new e _ hl) (.lst (.inl (.inl upd_same)) ((paired_all (fun _ _ h => h.2) hm2).mono (same_upd (e.free hl))))
    rename_i ns h1
    cases hf1
    obtain ⟨p, rfl, h2⟩ := ints_at (ns := ns) e (d := .list zs) h1 hx1
    refine cr_sortedI pins s σ H _ us Q I rx ⟨p, ns, rfl, h2, fun ns' l hp hs hl => ?_⟩
    rw [sortI_eq hp hs]
    exact q _ _ _ (.new e _ hl) (.lst (.inl (.inl upd_same)) (ints_all _))
  · obtain ⟨ns, h1, rfl⟩ := Option.map_eq_some_iff.mp hf1
    obtain ⟨kvs, h2, h3⟩ := Option.bind_eq_some_iff.mp h1
    rw [undict_some h2] at hx1
    obtain ⟨a, o, rfl, ha, rd⟩ := hx1.dicE e
    obtain ⟨u, rfl, ru⟩ := vals1 rx
    cases ru
    have flat : ∃ ks, Rd H a (.dK ks) ∧ ks.map (·.1) = ns.map Sum.inl := by
      rcases rd.two ha with ⟨ks, ha, r1, _⟩ | ⟨ks, ha, r1, n1⟩
      · exact ⟨ks, ha, keys_num h3 r1⟩
      · cases r1 with
        | nil => exact absurd rfl n1
        | cons ok _ _ _ =>
          rename_i k0 _ _ _ _ _ _ _ _
          cases k0 <;> simp [okKey] at ok
          simp [numKeys] at h3
    obtain ⟨ks, ha, hks⟩ := flat
    obtain ⟨z, lo, vs, rel, dd⟩ := dk_rd I.hok ha
    obtain ⟨ep, hat⟩ := dd.dictAt
    have hkeys : vs.map (·.1) = ns.map Sum.inl := rel.keys.symm.trans hks
    have hl : vs.length = ns.length := by
      have e := congrArg List.length hkeys
      rw [List.length_map, List.length_map] at e
      exact e
    have h16 : vs.length ≤ sizeLine := by
      have e1 := congrArg List.length hks
      rw [List.length_map, List.length_map] at e1
      omega
    refine Calls.call_function_entry PyProof.Rows.kind_sorted PyProof.Rows.plain_sorted PyProof.Rows.entry_sorted (PyProof.Rows.args_sorted1 _) ?_
    unfold Builtin.«sorted»
    refine wpAny_bind (m := checkCount "sorted" 1 1 _) (wpAny_pure ?_)
    refine wpAny_bind (PySem.W.kdu_collect (A := X.A.in1) (PySem.W.kdl_dict (knd := mixKind X.prog X.w) (kvs := vs) (ep := ep) lo) (I.ok.hd hc) hat h16 fun h' tk acc hk hacc => ?_)
    have hal : acc.toList.length = ns.length := by rw [Array.length_toList, hacc.1, hl]
    have hS : IntsAre acc.toList ns := ints_each hal fun j v e => by
      obtain ⟨k, x, e1, e2⟩ := hacc.2 j v (by rw [← Array.getElem?_toList]; exact e)
      have e3 : (vs.map (·.1))[j]? = some k := by rw [List.getElem?_map, e1]; rfl
      rw [hkeys, List.getElem?_map] at e3
      cases e4 : ns[j]? with
      | none => rw [e4] at e3; cases e3
      | some y =>
        rw [e4] at e3
        have e5 : Sum.inl y = k := Option.some.inj e3
        subst e5
        rcases keyIs_shape (show keyIs (Sum.inl y) v = true from e2) with ⟨i, t, ek, ev⟩ | ⟨z, t, ek, ev⟩
        · cases ek
          exact ⟨y, t, rfl, ev⟩
        · cases ek
    have I1 : Inv X pins σ H { s with heap := h', toks := tk } := I.kept hk
    have hal2 : acc.toList.length ≤ sizeLine := by rw [hal, ← hl]; exact h16
    refine wpAny_bind (wpAny_newList ?_ hal2)
    have hoL : (h'.push (seqObj "list" acc.toList.toArray 0)).get? h'.objs.size = some (seqObj "list" acc.toList.toArray 0) := Heap.get?_push_size _ rfl
    show wpAny _ _ _ _ _ { s with heap := h'.push (seqObj "list" acc.toList.toArray 0), toks := tk }
    refine wpAny_bind (wpAny_holding (wpAny_call_entry PyProof.Rows.slot_list_sort ⟨_, hoL, rfl⟩ PyProof.Rows.entry_list_sort
      (SrtO.list_sort_ord (s := { s with heap := h'.push (seqObj "list" acc.toList.toArray 0), toks := tk }) SrtO.swo_int hoL hal2 (fun h2 => SrtO.ints_sortable hS h2) fun out h1 h2 => ⟨_, rfl, ?_⟩) (PyProof.Rows.args_list_sort _)))
    obtain ⟨k1, k2, k3⟩ := SrtO.ints_out hS h1 h2
    obtain ⟨e', he'⟩ := PyProof.Rows.sortedHeap_at (vs := acc.toList) (out := out.toArray) hoL
    have hlen : ((out.map SrtO.iv).map V.int).length ≤ sizeLine := by
      rw [List.length_map, k2.length_eq, ← hl]
      exact h16
    refine wpAny_pure ⟨_, rfl, .ref h'.objs.size, upd H h'.objs.size (.lst ((out.map SrtO.iv).map V.int)), I1.laid (t' := tk) (fun b u e => ?_) (Nat.le_refl _)
      (show ObjOk X.prog X.w _ _ _ (.lst ((out.map SrtO.iv).map V.int)) from ⟨hlen, out, e', vals_of_ints k1, he'⟩), rfl, ?_⟩
    · have hb : b < h'.objs.size := Heap.lt_size e
      rw [PyProof.Rows.sortedHeap_old (Nat.ne_of_lt hb) (by rw [size_push']; exact Nat.lt_succ_of_lt hb)]
      exact Heap.get?_push_of_some _ e
    · rw [sortI_eq k2 k3]
      have hf : H h'.objs.size = none := I1.hok.fresh (Nat.le_refl _)
      exact q _ _ _ (.new e _ hf) (.lst (.inl (.inl upd_same)) (ints_all _))
  · cases hf1

/-! ### all -/
theorem bools_rp {S : Sx} {F : Hp} : ∀ {ds : List PyData} {ns : List Bool}, boolsOf ds = some ns → ∀ {vs : List V}, RpAll S F vs ds → vs = ns.map V.bl
  | [], _, h, _, r => by
    cases r
    simp [boolsOf] at h
    subst h; rfl
  | d :: ds, ns, h, _, .cons h1 r => by
    unfold boolsOf at h
    split at h
    · rename_i z; cases z
    · rename_i i r' z
      cases z
      split at h
      · rename_i is h2
        cases h
        rw [h1.blE, bools_rp h2 r]; rfl
      · cases h
    · cases h
theorem strs_rp {S : Sx} {F : Hp} : ∀ {ds : List PyData} {ns : List Str}, strsOf ds = some ns → ∀ {vs : List V}, RpAll S F vs ds → vs = ns.map V.str
  | [], _, h, _, r => by
    cases r
    simp [strsOf] at h
    subst h; rfl
  | d :: ds, ns, h, _, .cons h1 r => by
    unfold strsOf at h
    split at h
    · rename_i z; cases z
    · rename_i i r' z
      cases z
      split at h
      · rename_i is h2
        cases h
        rw [h1.strE, strs_rp h2 r]; rfl
      · cases h
    · cases h
theorem strs_all {S : Sx} {F : Hp} : ∀ ns : List Str, RpAll S F (ns.map V.str) (ns.map PyData.str)
  | [] => .nil
  | n :: ns => .cons (.str n) (strs_all ns)
theorem c_all (hc : X.calm = true) : CallR X (.builtin "all") (rCa (X.sx W) (on1 allB)) := by
  rintro pins s σ H xs us Q I rx ⟨F₁, ds, r, e, hx, hf, q⟩
  obtain ⟨d, rfl, hf1⟩ := on1_some hf
  obtain ⟨x, rfl, hx1⟩ := hx.one
  unfold allB at hf1
  split at hf1
  · obtain ⟨bs, h1, rfl⟩ := Option.map_eq_some_iff.mp hf1
    obtain ⟨p, ys, rfl, h2, r2⟩ := hx1.lstE e
    rw [bools_rp h1 r2] at h2
    exact cr_all hc pins s σ H _ us Q I rx ⟨p, bs, rfl, h2, q _ H F₁ (.refl e) (.bl _)⟩
  · cases hf1

/-! ### isinstance -/
def tyN : Ty → String
  | .none => "NoneType"
  | .bool => "bool"
  | .int => "int"
  | .str => "str"
  | .list => "list"
  | .tuple => "tuple"
  | .dict => "dict"
/-- isinstance(x, T) -/
def rIs (S : Sx) (n : String) (ts : List Ty) : List V → Hp → VK → Prop := fun xs H Q => ∃ F d x r, Same F H ∧ xs = [x, .ty n] ∧ Pk S F H x d ∧ isB ts d = some r ∧ ∀ z, Rp S F z r → Q z H
theorem c_is {n : String} {ts : List Ty} (hk : ∀ t, t ≠ Ty.dict → kitB (tyN t) n = some (decide (t ∈ ts))) : CallR X (.builtin "isinstance") (rIs (X.sx W) n ts) := by
  rintro pins s σ H xs us Q I rx ⟨F₁, d, x, r, e, rfl, hx, hf, q⟩
  unfold isB at hf
  split at hf <;> cases hf
  rename_i hd
  have ty : TyX X.K H x (.type (tyN (tyD d))) := by
    cases d with
    | none => have := hx.nonE; subst this; exact .base .non
    | bool b => have := hx.blE; subst this; exact .base (.bl b)
    | int i => have := hx.intE; subst this; exact .base (.int i)
    | str i => have := hx.strE; subst this; exact .base (.str i)
    | list ds =>
      obtain ⟨p, ys, rfl, h1, r1⟩ := hx.lstE e
      rcases h1 with (h1 | ⟨o, h1⟩) | ⟨o, its, n, h1, h2, _⟩
      · exact .base (.lst h1)
      · exact .base (.frz h1)
      · exact .kList h1 h2
    | tuple ds =>
      obtain ⟨p, ys, rfl, h1, r1⟩ := hx.tupE e
      rcases SqT.same e h1 with (h1 | ⟨o, h1⟩) | ⟨o, its, n, h1, h2, _⟩
      · exact .base (.tup h1)
      · exact .fTuple h1
      · exact .kTuple h1 h2
    | dict ds => exact absurd rfl hd
  exact call_isi pins s σ H _ us Q I rx ⟨x, .ty n, _, _, _, rfl, .ty n, ty, kit_ty (hk _ hd), q _ (.bl _)⟩
theorem k_int : ∀ t, t ≠ Ty.dict → kitB (tyN t) "int" = some (decide (t ∈ [Ty.int, Ty.bool])) := by
  intro t h; cases t <;> first | exact absurd rfl h | decide +kernel
theorem k_bool : ∀ t, t ≠ Ty.dict → kitB (tyN t) "bool" = some (decide (t ∈ [Ty.bool])) := by
  intro t h; cases t <;> first | exact absurd rfl h | decide +kernel
theorem k_str : ∀ t, t ≠ Ty.dict → kitB (tyN t) "str" = some (decide (t ∈ [Ty.str])) := by
  intro t h; cases t <;> first | exact absurd rfl h | decide +kernel
theorem k_list : ∀ t, t ≠ Ty.dict → kitB (tyN t) "list" = some (decide (t ∈ [Ty.list])) := by
  intro t h; cases t <;> first | exact absurd rfl h | decide +kernel
theorem k_tuple : ∀ t, t ≠ Ty.dict → kitB (tyN t) "tuple" = some (decide (t ∈ [Ty.tuple])) := by
  intro t h; cases t <;> first | exact absurd rfl h | decide +kernel

/-! ### truth -/
theorem tru_of {F H : Hp} (e : Same F H) {x : V} {d : PyData} {k : Bool} (h : Pk (X.sx W) F H x d) (hk : truD d = some k) : TruV X.K x H k := by
  cases d with
  | none => have := h.nonE; subst this; cases hk; rfl
  | bool b => have := h.blE; subst this; cases hk; rfl
  | int i => have := h.intE; subst this; cases hk; rfl
  | str i =>
    have := h.strE; subst this
    have hk : (if small i.length then some ((i.length : Int) != 0) else none) = some k := hk
    split at hk
    · rename_i hz
      cases hk
      exact ⟨most_line hz, rfl⟩
    · cases hk
  | list ds =>
    cases hk
    obtain ⟨p, ys, rfl, h1, r1⟩ := h.lstE e
    refine .inl ⟨ys, h1, ?_⟩
    cases r1 <;> rfl
  | tuple ds =>
    cases hk
    obtain ⟨p, ys, rfl, h1, r1⟩ := h.tupE e
    refine .inr (.inl ⟨ys, SqT.same e h1, ?_⟩)
    cases r1 <;> rfl
  | dict ds => cases hk

/-! ### len(set(xs)) -/
theorem dedup_unlike : ∀ (ns acc : List Int), ns.foldl PyProof.Rows.step_dedup acc = ns.foldl (fun acc n => if n ∈ acc then acc else acc ++ [n]) acc
  | [], _ => rfl
  | n :: ns, acc => by
    have e : PyProof.Rows.step_dedup acc n = if n ∈ acc then acc else acc ++ [n] := by
      unfold PyProof.Rows.step_dedup
      by_cases h : n ∈ acc
      · rw [if_pos h, if_pos (List.any_eq_true.mpr ⟨n, h, by simp⟩)]
      · rw [if_neg h, if_neg]
        intro z
        obtain ⟨y, hy, e⟩ := List.any_eq_true.mp z
        rw [beq_iff_eq] at e
        subst e
        exact h hy
    rw [List.foldl_cons, List.foldl_cons, e]
    exact dedup_unlike ns _
theorem getD_range (ns : List Int) : (List.range ns.length).map (fun i => ns.getD i 0) = ns := by
  apply List.ext_getElem
  · simp
  · intro i h1 h2
    simp [List.getD_eq_getElem?_getD, h2]
theorem met_unlike (ns : List Int) : PyProof.Rows.firstMet (fun i => ns.getD i 0) ns.length = unlike ns := by
  unfold PyProof.Rows.firstMet unlike
  rw [getD_range, dedup_unlike]
theorem unlike_mem (ns : List Int) : ∀ k, k ∈ unlike ns ↔ k ∈ ns := by
  have go : ∀ (ns acc : List Int) (k : Int), k ∈ ns.foldl (fun acc n => if n ∈ acc then acc else acc ++ [n]) acc ↔ k ∈ acc ∨ k ∈ ns := by
    intro ns
    induction ns with
    | nil => intro acc k; simp
    | cons n ns ih =>
      intro acc k
      rw [List.foldl_cons, ih]
      split
      · rename_i h
        constructor
        · rintro (z | z)
          · exact .inl z
          · exact .inr (List.mem_cons_of_mem _ z)
        · rintro (z | z)
          · exact .inl z
          · rcases List.mem_cons.mp z with rfl | z
            · exact .inl h
            · exact .inr z
      · simp [or_assoc]
  intro k
  unfold unlike
  rw [go]
  simp
theorem unlike_nodup (ns : List Int) : (unlike ns).Nodup := by
  have go : ∀ (ns acc : List Int), acc.Nodup → (ns.foldl (fun acc n => if n ∈ acc then acc else acc ++ [n]) acc).Nodup := by
    intro ns
    induction ns with
    | nil => intro acc h; exact h
    | cons n ns ih =>
      intro acc h
      rw [List.foldl_cons]
      apply ih
      split
      · exact h
      · rename_i z
        exact List.nodup_append.mpr ⟨h, by simp, fun x hx y hy e => by
          rw [List.mem_singleton] at hy
          subst hy; subst e
          exact z hx⟩
  exact go ns [] .nil
theorem unlike_len (ns : List Int) : (unlike ns).length ≤ ns.length := by
  rw [← met_unlike]
  exact PyProof.Rows.firstMet_length_le _ _
variable {a : Expr} {ta : TE} {p p2 q' pos : Pos}
theorem pe_lenSet (hc : X.calm = true) (hg : Gl X "len") (hm : X.mg "len" = none) (hg2 : Gl X "set") (hm2 : X.mg "set" = none) (ha : PE X a ta)
    (na : starEach [a] X.env = (false, eval a X.env) :: starEach [] X.env) : PE X (.Call (.Name "len" p) [.Call (.Name "set" p2) [a] [] q'] [] pos) (fun σ H Q => ta σ H fun x H1 => rCa (X.sx W) (on1 lenSetB) [x] H1 Q) := by
  refine ⟨fun pins s σ H Q I h => ?_⟩
  refine Call_ (ld_blt I hg hm PySem.boot_len ?_)
  refine PyProof.Rows.callWith_builtin1 (PyProof.Rows.args_cons ?_ rfl) rfl rfl
  refine Call_ (ld_blt I hg2 hm2 PyProof.Rows.boot_set ?_)
  refine PyProof.Rows.callWith_type1 (PyProof.Rows.args_cons (thn (ha.run pins s σ H _ I h) fun v s1 ⟨x, H1, I1, r1, q1⟩ => PyProof.Rows.args_nil ?_) na) na rfl
  obtain ⟨F₁, ds, r, e, hx, hf, q1⟩ := q1
  obtain ⟨d, rfl, hf1⟩ := on1_some hf
  obtain ⟨x', hx', hx1⟩ := hx.one
  cases hx'
  unfold lenSetB at hf1
  obtain ⟨ns, h1, h2⟩ := Option.bind_eq_some_iff.mp hf1
  split at h2 <;> cases h2
  rename_i hz
  obtain ⟨l, rfl, hq⟩ := ints_at e h1 hx1
  cases r1
  obtain ⟨its, rr, pl, hz2⟩ := I1.list hq
  have hl : its.toArray.size = ns.length := by rw [List.size_toArray, ← rr.length, List.length_map]
  refine call_set_list (I1.ok.hd hc) pl.isList (ns := ns) (by simpa using rr.ints) (by unfold scanBound; omega) fun h' tk hS hk => ?_
  rw [hl, met_unlike] at hS
  refine PyProof.Rows.args_nil ?_
  obtain ⟨o, es, ep, t, ho, hex, hd, _, _, _, hf', hn⟩ := hS
  have I2 : Inv X pins σ H1 { s1 with heap := h', toks := tk } := I1.kept fun b o e => hk b o (Heap.lt_size e) e
  have := unlike_len ns
  refine call_len_set ho hex hd hf' (by rw [hn] <;> omega) ⟨.int (unlike ns).length, H1, I2.tok _, ⟨_, by rw [hn]⟩, q1 _ H1 F₁ (.refl e) (.int _)⟩

/-! ### methods -/
def rMt (S : Sx) (m : Mt) : V → List V → Hp → VK → Prop := fun x xs H Q => ∃ F dx ds r, Same F H ∧ Pk S F H x dx ∧ PkAll S F H xs ds ∧ mtD m dx ds = some r ∧ ∀ z H' F', Ext H F H' F' → Rp S F' z r → Q z H'
theorem indexD_is : ∀ {ds : List PyData} {x : PyData} {j : Nat}, indexD ds x = some j → ∃ z, ds[j]? = some z ∧ PyData.eqv z x = true ∧ ∀ (m : Nat) (z' : PyData), m < j → ds[m]? = some z' → PyData.eqv z' x = false
  | [], _, _, h => by simp [indexD] at h
  | y :: ys, x, j, h => by
    unfold indexD at h
    split at h
    · rename_i hy
      cases h
      exact ⟨y, rfl, hy, fun m z' hm => absurd hm (by omega)⟩
    · rename_i hy
      obtain ⟨i, h1, rfl⟩ := Option.map_eq_some_iff.mp h
      obtain ⟨z, h2, h3, h4⟩ := indexD_is h1
      refine ⟨z, by simpa using h2, h3, fun m z' hm hz => ?_⟩
      cases m with
      | zero => simp at hz; subst hz; simpa using hy
      | succ m => exact h4 m z' (by omega) (by simpa using hz)
theorem m_index (hu : X.A.units + 65 < cLine) : MtR X "list.index" (rMt (X.sx W) .index) := by
  rintro pins s σ H x xs v us Q I rx rxs ⟨F₁, dx, ds, r, e, hx, hxs, hf, q⟩
  have hf : indexM dx ds = some r := hf
  unfold indexM at hf
  split at hf <;> try cases hf
  rename_i ds y _
  split at hf
  · rename_i hs
    rw [Bool.and_eq_true] at hs
    obtain ⟨j, h1, rfl⟩ := Option.map_eq_some_iff.mp hf
    obtain ⟨z, k1, k2, k3⟩ := indexD_is h1
    obtain ⟨y', rfl, hy⟩ := hxs.one
    have dl := (hx.rp e).dp (lay_of hs.2)
    obtain ⟨p, ys, rfl, g1, g2⟩ := hx.lstE e
    exact mt_indexD hu pins s σ H _ _ v us Q I rx rxs ⟨p, y', y, ds, j, z, rfl, rfl, dl, (hy.rp e).dp (lay_of hs.1), hs.2, hs.1, k1, k2, k3, q _ H F₁ (.refl e) (.int _)⟩
  · cases hf
theorem m_split : MtR X "str.split" (rMt (X.sx W) .split) := by
  rintro pins s σ H x xs v us Q I rx rxs ⟨F₁, dx, ds, r, e, hx, hxs, hf, q⟩
  have hf : splitM dx ds = some r := hf
  unfold splitM at hf
  split at hf <;> try cases hf
  rename_i z y _
  split at hf
  · rename_i hs
    cases hf
    obtain ⟨y', rfl, hy⟩ := hxs.one
    have e1 := hx.strE; have e2 := hy.strE
    subst e1 e2
    have h2 : most = 16000000 := rfl
    exact mt_split pins s σ H _ _ v us Q I rx rxs ⟨z, y, rfl, rfl, hs.1, by rw [sizeLine_eq]; omega, fun l hl => q _ _ _ (.new e _ hl) (.lst (.inl (.inl upd_same)) (strs_all _))⟩
  · cases hf
theorem m_partition : MtR X "str.partition" (rMt (X.sx W) .partition) := by
  rintro pins s σ H x xs v us Q I rx rxs ⟨F₁, dx, ds, r, e, hx, hxs, hf, q⟩
  have hf : partM dx ds = some r := hf
  unfold partM at hf
  split at hf <;> try cases hf
  rename_i z y _
  split at hf
  · rename_i hs
    cases hf
    obtain ⟨y', rfl, hy⟩ := hxs.one
    have e1 := hx.strE; have e2 := hy.strE
    subst e1 e2
    have h2 : most = 16000000 := rfl
    exact mt_partition pins s σ H _ _ v us Q I rx rxs ⟨z, y, rfl, rfl, hs.1, by rw [sizeLine_eq]; omega, fun l hl => q _ _ _ (.new e _ hl) (.tup (.inl (.inl upd_same)) (.cons (.str _) (.cons (.str _) (.cons (.str _) .nil))))⟩
  · cases hf
theorem m_count : MtR X "str.count" (rMt (X.sx W) .count) := by
  rintro pins s σ H x xs v us Q I rx rxs ⟨F₁, dx, ds, r, e, hx, hxs, hf, q⟩
  have hf : countM dx ds = some r := hf
  unfold countM at hf
  split at hf <;> cases hf
  rename_i z y
  obtain ⟨y', rfl, hy⟩ := hxs.one
  have e1 := hx.strE; have e2 := hy.strE
  subst e1 e2
  exact mt_count pins s σ H _ _ v us Q I rx rxs ⟨z, y, rfl, rfl, q _ H F₁ (.refl e) (.int _)⟩
theorem m_upper : MtR X "str.upper" (rMt (X.sx W) .upper) := by
  rintro pins s σ H x xs v us Q I rx rxs ⟨F₁, dx, ds, r, e, hx, hxs, hf, q⟩
  have hf : upperM dx ds = some r := hf
  unfold upperM at hf
  split at hf <;> try cases hf
  rename_i z _
  split at hf
  · rename_i hs
    cases hf
    cases hxs
    have e1 := hx.strE
    subst e1
    exact mt_upper pins s σ H _ _ v us Q I rx rxs ⟨z, rfl, rfl, by omega, q _ H F₁ (.refl e) (.str _)⟩
  · cases hf
theorem m_join : MtR X "str.join" (rMt (X.sx W) .join) := by
  rintro pins s σ H x xs v us Q I rx rxs ⟨F₁, dx, ds, r, e, hx, hxs, hf, q⟩
  have hf : joinM dx ds = some r := hf
  unfold joinM at hf
  split at hf <;> try cases hf
  rename_i z ys _
  obtain ⟨zs, h1, h2⟩ := Option.bind_eq_some_iff.mp hf
  split at h2
  · rename_i hs
    cases h2
    obtain ⟨y', rfl, hy⟩ := hxs.one
    have e1 := hx.strE
    subst e1
    obtain ⟨p, ws, rfl, g1, g2⟩ := hy.lstE e
    rw [strs_rp h1 g2] at g1
    have h2 : most = 16000000 := rfl
    exact mt_join pins s σ H _ _ v us Q I rx rxs ⟨z, p, zs, rfl, rfl, .inl g1, by omega, q _ H F₁ (.refl e) (.str _)⟩
  · cases h2
end
end VI
set_option Elab.async false
set_option linter.all false
set_option autoImplicit false
set_option maxRecDepth 20000
/-! sorted(set(xs)). -/
namespace VI
open PySem PySem.Spec PyProof.Rows L2
section
variable {X : Cx} {W : WX} {a : Expr} {ta : TE} {p p2 q' pos : Pos}
theorem lt_sort {ns ms : List Int} (h1 : ms.Pairwise (· < ·)) (h2 : ∀ k, k ∈ ms ↔ k ∈ ns) : ms = sortI (unlike ns) := by
  apply sortI_eq
  · refine (List.perm_ext_iff_of_nodup ?_ (unlike_nodup ns)).mpr fun k => ?_
    · exact h1.imp fun h e => by omega
    · rw [h2, unlike_mem]
  · exact h1.imp fun h => by omega
theorem pe_sortedSet (hc : X.calm = true) (hg : Gl X "sorted") (hm : X.mg "sorted" = none) (hg2 : Gl X "set") (hm2 : X.mg "set" = none) (ha : PE X a ta)
    (na : starEach [a] X.env = (false, eval a X.env) :: starEach [] X.env) : PE X (.Call (.Name "sorted" p) [.Call (.Name "set" p2) [a] [] q'] [] pos) (fun σ H Q => ta σ H fun x H1 => rCa (X.sx W) (on1 sortedSetB) [x] H1 Q) := by
  refine ⟨fun pins s σ H Q I h => ?_⟩
  refine Call_ (ld_blt I hg hm PyProof.Rows.boot_sorted ?_)
  refine PyProof.Rows.callWith_builtin1 (PyProof.Rows.args_cons ?_ rfl) rfl rfl
  refine Call_ (ld_blt I hg2 hm2 PyProof.Rows.boot_set ?_)
  refine PyProof.Rows.callWith_type1 (PyProof.Rows.args_cons (thn (ha.run pins s σ H _ I h) fun v s1 ⟨x, H1, I1, r1, q1⟩ => PyProof.Rows.args_nil ?_) na) na rfl
  obtain ⟨F₁, ds, r, e, hx, hf, q1⟩ := q1
  obtain ⟨d, rfl, hf1⟩ := on1_some hf
  obtain ⟨x', hx', hx1⟩ := hx.one
  cases hx'
  unfold sortedSetB at hf1
  obtain ⟨ns, h1, h2⟩ := Option.bind_eq_some_iff.mp hf1
  split at h2 <;> cases h2
  rename_i hz
  obtain ⟨l, rfl, hq⟩ := ints_at e h1 hx1
  cases r1
  obtain ⟨its, rr, pl, hz2⟩ := I1.list hq
  refine set_listI ns (I1.ok.hd hc) pl.isList (by simpa using rr.ints) (by unfold scanBound; omega) fun h' tk c R1 hcn hk => ?_
  refine PyProof.Rows.args_nil ?_
  have I2 : Inv X pins σ H1 { s1 with heap := h', toks := tk } := I1.kept fun b o e => hk b o e
  refine sorted_set R1 (I1.ok.hd hc) (by omega) fun s' p out c2 ms k g o hp hgp hi hs hm hl => ?_
  obtain ⟨h2, g2, d2, t2, o2⟩ := s'
  have e1 : g2 = s1.gens := g
  have e2 : o2 = s1.os := o
  subst e1 e2
  have hp' : H1 p = none := I2.hok.fresh hp
  have es := lt_sort (ns := ns) hs (fun k => by rw [hm k, decide_eq_true_eq])
  rw [es] at hi hl
  have hlen : ((sortI (unlike ns)).map V.int).length ≤ sizeLine := by
    rw [List.length_map, hl, sizeLine_eq]
    omega
  have new : ObjOk X.prog X.w (upd H1 p (.lst ((sortI (unlike ns)).map V.int))) h2 p (.lst ((sortI (unlike ns)).map V.int)) :=
    ⟨hlen, out.toList, c2, vals_of_ints hi, by rw [Array.toArray_toList]; exact hgp⟩
  have I3 := Inv.call (s := { s1 with heap := h', toks := tk }) (h' := h2) (g' := s1.gens) (d' := d2) (t' := t2) (ch := []) I2 (Un.laid k hp hp') (I2.hok.laid k hp new) I2.bare (fun _ z => nomatch z)
  exact ⟨.ref p, _, I3, rfl, q1 _ _ _ (.new e _ hp') (.lst (.inl (.inl upd_same)) (ints_all _))⟩
end
end VI
set_option Elab.async false
set_option linter.all false
set_option autoImplicit false
set_option maxRecDepth 20000
/-! What the mini-interpreter's answers say of the abstract heap. -/
namespace VI
open PySem PySem.Spec PyProof.Rows L2

abbrev _root_.L2.Cx.sy (X : Cx) : Sx := ⟨X.prog, X.w, X.K, X.mg⟩

def ValOk (S : Sx) (σ : L2.St) (F : Hp) : EV → V → Prop
  | .d d, x => Rp S F x d
  | .own i, x => σ[i]? = some (some x)
inductive ValsOk (S : Sx) (σ : L2.St) (F : Hp) : List EV → List V → Prop
  | nil : ValsOk S σ F [] []
  | cons {v : EV} {x : V} {vs : List EV} {xs : List V} : ValOk S σ F v x → ValsOk S σ F vs xs → ValsOk S σ F (v :: vs) (x :: xs)
def ExcIs (S : Sx) (e : Exc) (cls : Value) : Prop := S.mg e.cls = some cls

section
variable {S : Sx} {W : WX} {α β γ δ : Type} {G F₀ F F1 H H1 : Hp} {σ : L2.St} {ρ ρ1 : Env}
theorem ValOk.mono (e : Same F F1) {v : EV} {x : V} (h : ValOk S σ F v x) : ValOk S σ F1 v x := by
  cases v with
  | d d => exact Rp.mono e h
  | own i => exact h
theorem ValsOk.mono (e : Same F F1) : ∀ {v : List EV} {x : List V}, ValsOk S σ F v x → ValsOk S σ F1 v x
  | _, _, .nil => .nil
  | _, _, .cons h r => .cons (h.mono e) (ValsOk.mono e r)
theorem ValsOk.length : ∀ {v : List EV} {x : List V}, ValsOk S σ F v x → v.length = x.length
  | _, _, .nil => rfl
  | _, _, .cons h r => congrArg (· + 1) r.length

/-- an answer's word: what is wanted holds behind it -/
def Got (S : Sx) (W : WX) (ok : Hp → Hp → Env → α → β → Prop) (G F₀ : Hp) (σ : L2.St) (H F : Hp) (o : Out α) (Q : β → Hp → Prop) : Prop := match o with
  | .stuck => False
  | .ok a ρ' => ∀ x H' F', Same H H' → Same F F' → Rel S G F₀ σ H' F' ρ' → ok H' F' ρ' a x → Q x H'
  | .exc e ρ' => ∀ cls d H' F', Same H H' → Same F F' → Rel S G F₀ σ H' F' ρ' → ExcIs S e cls → W cls d σ H'
variable {ok1 : Hp → Hp → Env → α → β → Prop} {ok2 : Hp → Hp → Env → γ → δ → Prop}
theorem Got.shift {o : Out α} {Q : β → Hp → Prop} (h : Got S W ok1 G F₀ σ H F o Q) (a : Same H H1) (b : Same F F1) : Got S W ok1 G F₀ σ H1 F1 o Q := by
  cases o with
  | stuck => exact h
  | ok v ρ' => exact fun x H' F' c d => h x H' F' (a.trans c) (b.trans d)
  | exc e ρ' => exact fun cls dd H' F' c d => h cls dd H' F' (a.trans c) (b.trans d)
theorem Got.imp {o : Out α} {Q Q' : β → Hp → Prop} (h : Got S W ok1 G F₀ σ H F o Q) (q : ∀ x H', Q x H' → Q' x H') : Got S W ok1 G F₀ σ H F o Q' := by
  cases o with
  | stuck => exact h
  | ok v ρ' => exact fun x H' F' c d r k => q x H' (h x H' F' c d r k)
  | exc e ρ' => exact h
/-- the first step's word, from the whole's -/
theorem Got.bind {o : Out α} {f : α → Env → Out γ} {Q : δ → Hp → Prop} (ok1 : Hp → Hp → Env → α → β → Prop) (h : Got S W ok2 G F₀ σ H F (o.bind f) Q) :
    Got S W ok1 G F₀ σ H F o (fun x H1 => ∃ F1 a ρ1, Same H H1 ∧ Same F F1 ∧ Rel S G F₀ σ H1 F1 ρ1 ∧ ok1 H1 F1 ρ1 a x ∧ o = .ok a ρ1 ∧ Got S W ok2 G F₀ σ H1 F1 (f a ρ1) Q) := by
  cases o with
  | stuck => exact h
  | ok v ρ' => exact fun x H' F' c d r k => ⟨F', v, ρ', c, d, r, k, rfl, Got.shift h c d⟩
  | exc e ρ' => exact h
theorem Got.ret {a : α} {Q : β → Hp → Prop} (h : Got S W ok1 G F₀ σ H F (.ok a ρ) Q) (R : Rel S G F₀ σ H F ρ) {x : β} (k : ok1 H F ρ a x) : Q x H := h x H F (Same.refl _) (Same.refl _) R k
theorem Got.ofO {m : Option α} {Q : β → Hp → Prop} (h : Got S W ok1 G F₀ σ H F (ofO m ρ) Q) : ∃ a, m = some a ∧ Got S W ok1 G F₀ σ H F (.ok a ρ) Q := by
  cases m with
  | none => exact h.elim
  | some a => exact ⟨a, rfl, h⟩
/-- a value of an operation -/
theorem Got.val {m : Option PyData} {Q : V → Hp → Prop} (h : Got S W (fun _ F' _ => ValOk S σ F') G F₀ σ H F (VI.ofO (m.map .d) ρ) Q) (R : Rel S G F₀ σ H F ρ) :
    ∃ r, m = some r ∧ ∀ x H' F', Ext H F H' F' → Rp S F' x r → Q x H' := by
  obtain ⟨a, e, h⟩ := h.ofO
  obtain ⟨r, e1, rfl⟩ := Option.map_eq_some_iff.mp e
  exact ⟨r, e1, fun x H' F' E k => h x H' F' E.hh E.ff (R.ext E) k⟩
theorem Rel.view (R : Rel S G F₀ σ H F ρ) {v : EV} {x : V} {d : PyData} (k : ValOk S σ F v x) (h : view ρ v = some d) : Pk S F H x d := by
  cases v with
  | d d' => cases h; exact .of k
  | own i =>
    obtain ⟨s, e, hs⟩ := Option.bind_eq_some_iff.mp h
    have k : σ[i]? = some (some x) := k
    have z := R.slot i s e
    cases s with
    | unb => cases hs
    | d y =>
      cases hs
      obtain ⟨u, e1, h1⟩ := z
      rw [k] at e1
      cases e1
      exact .of h1
    | lst ds =>
      cases hs
      obtain ⟨p, xs, e1, h1, h2, _⟩ := z
      rw [k] at e1
      cases e1
      exact .lst h1 h2
    | dic kvs =>
      cases hs
      obtain ⟨p, o, e1, h1, h2, _⟩ := z
      rw [k] at e1
      cases e1
      exact .dic h1 h2
    | obj _ _ => cases hs
theorem Rel.views (R : Rel S G F₀ σ H F ρ) : ∀ {vs : List EV} {xs : List V} {ds : List PyData}, ValsOk S σ F vs xs → views ρ vs = some ds → PkAll S F H xs ds
  | _, _, _, .nil, h => by cases h; exact .nil
  | _, _, _, .cons k r, h => by
    unfold VI.views at h
    split at h
    · rename_i h1 h2
      cases h
      exact .cons (R.view k h1) (Rel.views R r h2)
    · cases h
theorem Rel.freeze (R : Rel S G F₀ σ H F ρ) {v : EV} {x : V} {d : PyData} (k : ValOk S σ F v x) (h : freeze v ρ = .ok d ρ1) :
    ∃ F', Same F F' ∧ Rp S F' x d ∧ Rel S G F₀ σ H F' ρ1 := by
  cases v with
  | d d' => cases h; exact ⟨F, Same.refl _, k, R⟩
  | own i =>
    unfold VI.freeze at h
    simp only at h
    split at h
    · rename_i y hy
      cases h
      obtain ⟨s, e, hs⟩ := Option.bind_eq_some_iff.mp hy
      obtain ⟨F', u, e1, ff, r, R'⟩ := R.close e hs
      have k : σ[i]? = some (some x) := k
      rw [k] at e1
      cases e1
      exact ⟨F', ff, r, R'⟩
    · cases h
theorem freeze_noexc {v : EV} {e : Exc} : freeze v ρ ≠ .exc e ρ1 := by
  cases v with
  | d d' => intro h; cases h
  | own i =>
    intro h
    unfold VI.freeze at h
    simp only at h
    split at h <;> cases h
theorem Got.freeze {v : EV} {x : V} {f : PyData → Env → Out γ} {Q : δ → Hp → Prop} (h : Got S W ok2 G F₀ σ H F ((VI.freeze v ρ).bind f) Q) (R : Rel S G F₀ σ H F ρ) (k : ValOk S σ F v x) :
    ∃ d ρ' F', Same F F' ∧ Rp S F' x d ∧ Rel S G F₀ σ H F' ρ' ∧ Got S W ok2 G F₀ σ H F' (f d ρ') Q := by
  cases e : VI.freeze v ρ with
  | stuck => rw [e] at h; exact h.elim
  | exc x r => exact absurd e freeze_noexc
  | ok d ρ' =>
    rw [e] at h
    obtain ⟨F', ff, r, R'⟩ := R.freeze k e
    exact ⟨d, ρ', F', ff, r, R', Got.shift h (Same.refl _) ff⟩
theorem freezeAll_cons {γ : Type} (v : EV) (vs : List EV) (ρ : Env) (f : List PyData → Env → Out γ) :
    (VI.freezeAll (v :: vs) ρ).bind f = (VI.freeze v ρ).bind fun x ρ => (VI.freezeAll vs ρ).bind fun xs ρ => f (x :: xs) ρ := by
  show ((VI.freeze v ρ).bind fun x ρ => (VI.freezeAll vs ρ).bind fun xs ρ => .ok (x :: xs) ρ).bind f = _
  cases VI.freeze v ρ with
  | stuck => rfl
  | exc _ _ => rfl
  | ok d ρ' =>
    show ((VI.freezeAll vs ρ').bind fun xs ρ => .ok (d :: xs) ρ).bind f = (VI.freezeAll vs ρ').bind fun xs ρ => f (d :: xs) ρ
    cases VI.freezeAll vs ρ' <;> rfl
theorem Got.freezeAll {Q : δ → Hp → Prop} : ∀ (vs : List EV) (xs : List V) (ρ : Env) (F : Hp) (f : List PyData → Env → Out γ), Got S W ok2 G F₀ σ H F ((VI.freezeAll vs ρ).bind f) Q → Rel S G F₀ σ H F ρ → ValsOk S σ F vs xs →
    ∃ ds ρ' F', Same F F' ∧ RpAll S F' xs ds ∧ Rel S G F₀ σ H F' ρ' ∧ Got S W ok2 G F₀ σ H F' (f ds ρ') Q := by
  intro vs
  induction vs with
  | nil =>
    intro xs ρ F f h R k
    cases k
    exact ⟨[], ρ, F, Same.refl _, .nil, R, h⟩
  | cons v vs ih =>
    intro xs ρ F f h R k
    cases k with
    | cons k r =>
      rw [freezeAll_cons] at h
      obtain ⟨d, ρ1, F1, f1, r1, R1, h1⟩ := h.freeze R k
      obtain ⟨ds, ρ2, F2, f2, r2, R2, h2⟩ := ih _ _ _ _ h1 R1 (r.mono f1)
      exact ⟨d :: ds, ρ2, F2, f1.trans f2, .cons (r1.mono f2) r2, R2, h2⟩
/-- a truth -/
theorem Got.tru {v : EV} {x : V} {X : Cx} {f : Bool → Env → Out γ} {Q : δ → Hp → Prop} {G F₀ H F : Hp} (h : Got X.sy W ok2 G F₀ σ H F ((truE v ρ).bind f) Q) (R : Rel X.sy G F₀ σ H F ρ) (k : ValOk X.sy σ F v x) :
    ∃ t, TruV X.K x H t ∧ truE v ρ = .ok t ρ ∧ Got X.sy W ok2 G F₀ σ H F (f t ρ) Q := by
  unfold truE at h ⊢
  cases e : (VI.view ρ v).bind truD with
  | none => rw [e] at h; exact h.elim
  | some t =>
    rw [e] at h
    obtain ⟨d, h1, h2⟩ := Option.bind_eq_some_iff.mp e
    exact ⟨t, tru_of (W := W) R.fle (R.view k h1) h2, rfl, h⟩
end

/-! ### the readings -/
section
variable (S : Sx) (Φ : Fns) (W : WX)
def T (c : CE) : TE := fun σ H Q => ∃ G F₀ F ρ, Rel S G F₀ σ H F ρ ∧ Got S W (fun _ F' _ => ValOk S σ F') G F₀ σ H F (ev Φ c ρ) Q
def TB (c : CE) : TT := fun σ H Q => ∃ G F₀ F ρ, Rel S G F₀ σ H F ρ ∧ Got S W (fun _ _ _ (a b : Bool) => a = b) G F₀ σ H F ((ev Φ c ρ).bind truE) Q
def TS' (es : CEs) : TA := fun σ H Q => ∃ G F₀ F ρ, Rel S G F₀ σ H F ρ ∧ Got S W (fun _ F' _ => ValsOk S σ F') G F₀ σ H F (evs Φ es ρ) Q
end
theorem pe_imp {X : Cx} {e : Expr} {t t' : TE} (h : PE X e t) (q : ∀ σ H Q, t' σ H Q → t σ H Q) : PE X e t' := ⟨fun pins s σ H Q I w => h.run pins s σ H Q I (q σ H Q w)⟩
theorem pt_imp {X : Cx} {e : Expr} {t t' : TT} (h : PT X e t) (q : ∀ σ H Q, t' σ H Q → t σ H Q) : PT X e t' := ⟨fun pins s σ H Q I w => h.run pins s σ H Q I (q σ H Q w)⟩
theorem pw_imp {X : Cx} {e : Expr} {t t' : TT} (h : PW X e t) (q : ∀ σ H Q, t' σ H Q → t σ H Q) : PW X e t' := ⟨fun wh pins s σ H Q I w => h.run wh pins s σ H Q I (q σ H Q w)⟩
theorem pa_imp {X : Cx} {e : List Expr} {t t' : TA} (h : PA X e t) (q : ∀ σ H Q, t' σ H Q → t σ H Q) : PA X e t' := ⟨fun p pins s σ H Q I w => h.run p pins s σ H Q I (q σ H Q w)⟩
theorem pi_imp {X : Cx} {e tg : Expr} {t t' : TI} (h : PI X tg e t) (q : ∀ σ H Q, t' σ H Q → t σ H Q) : PI X tg e t' := ⟨fun pins s σ H Q I w => h.run pins s σ H Q I (q σ H Q w)⟩
end VI
set_option Elab.async false
set_option linter.all false
set_option autoImplicit false
set_option maxRecDepth 20000
/-! The checker: a term of the mini-interpreter is what stands written. -/
namespace VI
open PySem PySem.Spec PyProof.Rows L2

structure Stc where
  N : List Str
  sc : Scope
  fnok : Str → Bool
  consts : List (Str × Const)
  fns : List (Str × Nat)

def isGl : Option NameKind → Bool
  | some .globalImplicit => true
  | _ => false
def isLoc : Option NameKind → Bool
  | some .local => true
  | _ => false
def isCell : Option NameKind → Bool
  | some .cell => true
  | _ => false
def isFree : Option NameKind → Bool
  | some .free => true
  | _ => false
section
variable (st : Stc)
def kd (x : Str) : Option NameKind := st.sc.names.lookup x
def gl (x : Str) : Bool := isGl (kd st x) && !(x == ("__debug__" : Str))
def chkName (i : Nat) (x : Str) : Bool := decide (st.N[i]? = some x) && (isLoc (kd st x) || isCell (kd st x) || isFree (kd st x)) && !(x == ("__debug__" : Str)) && !(x == ("__classdict__" : Str))
def chkStore (i : Nat) (x : Str) : Bool := decide (st.N[i]? = some x) && (isLoc (kd st x) || (isCell (kd st x) && st.fnok x))
end
def litOk : PyData → Const → Bool
  | .none, .none => true
  | .bool a, .bool b => a == b
  | .int a, .int b => decide (a = b)
  | .str a, .str b => decide (a = b)
  | _, _ => false
def constV : Const → Option V
  | .none => some .non
  | .bool b => some (.bl b)
  | .int i => some (.int i)
  | .str x => some (.str x)
  | _ => none
def opOk : BOp → Operator → Bool
  | .add, .Add => true
  | .sub, .Sub => true
  | .mul, .Mult => true
  | .fdiv, .FloorDiv => true
  | .mod, .Mod => true
  | .pow, .Pow => true
  | _, _ => false
def cmpOk : COp → CmpOp → Bool
  | .eq, .Eq => true
  | .ne, .NotEq => true
  | .lt, .Lt => true
  | .le, .LtE => true
  | .gt, .Gt => true
  | .ge, .GtE => true
  | .isIn, .In => true
  | .notIn, .NotIn => true
  | .is, .Is => true
  | .isNot, .IsNot => true
  | _, _ => false
def plainE : Expr → Bool
  | .Starred .. => false
  | .Set .. => false
  | .Slice .. => false
  | _ => true
def notBare : Expr → Bool
  | .Call (.Name _ _) [] [] _ => false
  | _ => true
def biName : Bi → Option Str
  | .len => some "len"
  | .abs => some "abs"
  | .int => some "int"
  | .str => some "str"
  | .sum => some "sum"
  | .max => some "max"
  | .min => some "min"
  | .max2 => some "max"
  | .min2 => some "min"
  | .sorted => some "sorted"
  | .tuple => some "tuple"
  | .all => some "all"
  | _ => none
def isName : Bi → Option Str
  | .isInt => some "int"
  | .isBool => some "bool"
  | .isList => some "list"
  | .isStr => some "str"
  | .isTuple => some "tuple"
  | _ => none
def mtName : Mt → Str
  | .index => "index"
  | .join => "join"
  | .split => "split"
  | .partition => "partition"
  | .count => "count"
  | .upper => "upper"
def isTrueL : CE → Bool
  | .lit (.bool true) => true
  | _ => false
def lenEs : CEs → Nat
  | .nil => 0
  | .cons _ es => lenEs es + 1
def chkTgs (st : Stc) : List Nat → List Expr → Bool
  | [], [] => true
  | i :: is, .Name x _ :: es => chkStore st i x && chkTgs st is es
  | _, _ => false
def chkTg (st : Stc) : Tg → Expr → Bool
  | .name i, .Name x _ => chkStore st i x
  | .tup is, .Tuple es _ _ => chkTgs st is es
  | _, _ => false
def slotsIn (vs : List Nat) : Tg → Bool
  | .name i => decide (i ∈ vs)
  | .tup is => is.all fun i => decide (i ∈ vs)
def isTupE : Expr → Bool
  | .Tuple .. => true
  | _ => false
def ownOf (N : List Str) (vs : List Nat) : List (Str × Nat) := vs.map fun v => (N[v]?.getD (Str.ofString ""), v)
def inBlk (st : Stc) (scope : Scope) : Stc := { st with sc := relS scope st.sc, fnok := fun x => scope.names.lookup x == some .cell }

mutual
def chkE (st : Stc) : CE → Expr → Bool
  | .lit x, e => match e with
    | .Constant c _ _ => litOk x c
    | _ => false
  | .glob x d, e => match e with
    | .Name y _ => decide (x = y) && gl st x && (match st.consts.lookup x with
      | some c => litOk d c
      | none => false)
    | _ => false
  | .var i, e => match e with
    | .Name y _ => chkName st i y
    | _ => false
  | .bin op a b, e => match e with
    | .BinOp l o r _ => opOk op o && chkE st a l && chkE st b r
    | _ => false
  | .neg a, e => match e with
    | .UnaryOp .USub x _ => chkE st a x
    | _ => false
  | .not a, e => match e with
    | .UnaryOp .Not x _ => chkE st a x
    | _ => false
  | .and a b, e => match e with
    | .BoolOp .And [x, y] _ => chkE st a x && chkE st b y
    | .BoolOp .And (x :: y :: z :: r) p => chkE st a x && chkE st b (.BoolOp .And (y :: z :: r) p)
    | _ => false
  | .or a b, e => match e with
    | .BoolOp .Or [x, y] _ => chkE st a x && chkE st b y
    | .BoolOp .Or (x :: y :: z :: r) p => chkE st a x && chkE st b (.BoolOp .Or (y :: z :: r) p)
    | _ => false
  | .cmp op a b, e => match e with
    | .Compare l [o] [r] _ => cmpOk op o && plainE r && chkE st a l && chkE st b r
    | _ => false
  | .chain op op' a b c, e => match e with
    | .Compare l [o, o'] [m, r] _ => cmpOk op o && cmpOk op' o' && plainE r && chkE st a l && chkE st b m && chkE st c r
    | _ => false
  | .ife c a b, e => match e with
    | .IfExp t x y _ => chkE st c t && chkE st a x && chkE st b y
    | _ => false
  | .call f es, e => match e with
    | .Call (.Name x _) (y :: ys) [] _ => decide (st.fns[f]? = some (x, lenEs es)) && gl st x && chkEs st es (y :: ys)
    | _ => false
  | .bi b es, e => match b with
    | .lenSet => (match e with
      | .Call (.Name x _) [.Call (.Name y _) [z] [] _] [] _ => decide (x = "len") && decide (y = "set") && gl st x && gl st y && chkEs st es [z]
      | _ => false)
    | .sortedSet => (match e with
      | .Call (.Name x _) [.Call (.Name y _) [z] [] _] [] _ => decide (x = "sorted") && decide (y = "set") && gl st x && gl st y && chkEs st es [z]
      | _ => false)
    | b => (match e with
      | .Call (.Name x _) [y] [] _ => decide (biName b = some x) && gl st x && chkEs st es [y]
      | .Call (.Name x _) [y, z] [] _ => (decide (biName b = some x) && gl st x && chkEs st es [y, z]) ||
        (decide (x = "isinstance") && gl st x && (match z with
          | .Name t _ => decide (isName b = some t) && gl st t
          | _ => false) && chkEs st es [y])
      | _ => false)
  | .get2 a k y, e => match e with
    | .Call (.Attribute o m ap) [x, z] [] cp => decide (m = "get") && notBare o && (ap.endLine == cp.line) && plainE x && plainE z && chkE st a o && chkE st k x && chkE st y z
    | _ => false
  | .mt m a es, e => match e with
    | .Call (.Attribute o x ap) args [] cp => decide (x = mtName m) && notBare o && (ap.endLine == cp.line) && decide (args.length < 29) && chkE st a o && chkEs st es args
    | _ => false
  | .idx a i, e => match e with
    | .Subscript x y _ => plainE y && chkE st a x && chkE st i y
    | _ => false
  | .slice a lo hi, e => match e with
    | .Subscript x (.Slice l u none _) _ => chkE st a x && (match l with
      | none => isNoneL lo
      | some l => !isNoneL lo && chkE st lo l) && (match u with
      | none => isNoneL hi
      | some u => !isNoneL hi && chkE st hi u)
    | _ => false
  | .tuple es, e => match e with
    | .Tuple xs _ _ => decide (xs.length ≤ 1000) && chkEs st es xs
    | _ => false
  | .fr c, e => chkO st c e
def chkEs (st : Stc) : CEs → List Expr → Bool
  | .nil, xs => match xs with
    | [] => true
    | _ => false
  | .cons e es, xs => match xs with
    | y :: ys => plainE y && chkE st e y && chkEs st es ys
    | [] => false
def chkO (st : Stc) : CO → Expr → Bool
  | .list es, e => match e with
    | .List xs _ => decide (xs.length ≤ 1000) && chkEs st es xs
    | _ => false
  | .listOf a, e => match e with
    | .Call (.Name x _) [y] [] _ => decide (x = "list") && gl st x && plainE y && chkE st a y
    | _ => false
  | .dict0, e => match e with
    | .Dict [] [] _ => true
    | _ => false
  | .dict1 k x, e => match e with
    | .Dict [some y] [z] _ => chkE st k y && chkE st x z
    | _ => false
  | .comp elt tg it cond vs, e => match e with
    | .ListComp x [⟨t, i, ifs, as⟩] scope _ => decide (as = 0) && blkC st.N st.sc scope (ownOf st.N vs) && slotsIn vs tg && chkI st it t i && chkTg (inBlk st scope) tg t && chkE (inBlk st scope) elt x && (match ifs with
      | [] => isTrueL cond
      | [c] => chkE (inBlk st scope) cond c
      | _ => false)
    | _ => false
def chkI (st : Stc) : It → Expr → Expr → Bool
  | .seq a, _, e => plainE e && chkE st a e
  | .range1 a, _, e => match e with
    | .Call (.Name x _) [y] [] _ => decide (x = "range") && gl st x && plainE y && chkE st a y
    | _ => false
  | .range2 a b, _, e => match e with
    | .Call (.Name x _) [y, z] [] _ => decide (x = "range") && gl st x && plainE y && plainE z && chkE st a y && chkE st b z
    | _ => false
  | .enum a, t, e => isTupE t && (match e with
    | .Call (.Name x _) [y] [] _ => decide (x = "enumerate") && gl st x && plainE y && chkE st a y
    | _ => false)
  | .zip a b, t, e => isTupE t && (match e with
    | .Call (.Name x _) [y, z] [] _ => decide (x = "zip") && gl st x && plainE y && plainE z && chkE st a y && chkE st b z
    | _ => false)
  | .keys a, _, e => plainE e && chkE st a e
  | .rev a, _, e => match e with
    | .Call (.Name x _) [y] [] _ => decide (x = "reversed") && gl st x && plainE y && chkE st a y
    | _ => false
end

/-! ### what stands around -/
def spF (S : Sx) (Φ : Fns) (i n : Nat) : Sp := fun vs H Q E => ∃ F ds, Same F H ∧ RpAll S F vs ds ∧ vs.length = n ∧ (match Φ i ds with
  | .stuck => False
  | .ok r => ∀ x H' F', Ext H F H' F' → Rp S F' x r → Q x H'
  | .exc e => ∀ cls d H' F', Ext H F H' F' → ExcIs S e cls → E cls d H')
def blts : List Str := ["len", "abs", "int", "str", "sum", "max", "min", "sorted", "tuple", "all", "isinstance", "bool", "list", "set", "range", "enumerate", "zip", "reversed"]
structure Dy (Φ : Fns) (st : Stc) (X : Cx) (W : WX) : Prop where
  N : X.N = st.N
  nd : st.N.Nodup
  sc : X.env.scope = st.sc
  calm : X.calm = true
  room : X.A.units + 200 < cLine
  fnok : ∀ x, st.fnok x = true → X.fn x = true
  takes : Takes X W
  blt : ∀ x ∈ blts, X.mg x = none
  con : ∀ x c, st.consts.lookup x = some c → ∃ u v, X.mg x = some u ∧ RelV v u ∧ constV c = some v
  fns : ∀ i x n, st.fns[i]? = some (x, n) → ∃ k f fd ps, FnOk X.prog X.w X.K X.mg X.base (L2.CX X.prog X.w) k f fd ps (spF X.sy Φ i n) ∧ Room k X.A ∧ X.mg x = some (.ref f) ∧ PySem.W.keepIn X.K (.ref f) = true ∧ Binds X.K fd ps []

section
variable {Φ : Fns} {st : Stc} {X : Cx} {W : WX}
theorem isGl_eq {k : Option NameKind} (h : isGl k = true) : k = some .globalImplicit := by
  unfold isGl at h
  split at h
  · rfl
  · cases h
theorem isLoc_eq {k : Option NameKind} (h : isLoc k = true) : k = some .local := by
  unfold isLoc at h
  split at h
  · rfl
  · cases h
theorem isCell_eq {k : Option NameKind} (h : isCell k = true) : k = some .cell := by
  unfold isCell at h
  split at h
  · rfl
  · cases h
theorem isFree_eq {k : Option NameKind} (h : isFree k = true) : k = some .free := by
  unfold isFree at h
  split at h
  · rfl
  · cases h
theorem Dy.gl (D : Dy Φ st X W) {x : Str} (h : gl st x = true) : Gl X x ∧ (x == ("__debug__" : Str)) = false := by
  unfold VI.gl at h
  simp only [Bool.and_eq_true, Bool.not_eq_true'] at h
  refine ⟨?_, h.2⟩
  show X.env.scope.names.lookup x = _
  rw [D.sc]
  exact isGl_eq h.1
theorem Dy.name (D : Dy Φ st X W) {i : Nat} {x : Str} (h : chkName st i x = true) : X.N[i]? = some x ∧ Vis X.env.scope x ∧ (x == ("__debug__" : Str)) = false ∧ (x == ("__classdict__" : Str)) = false := by
  unfold chkName at h
  simp only [Bool.and_eq_true, Bool.not_eq_true', Bool.or_eq_true, decide_eq_true_eq] at h
  obtain ⟨⟨⟨h1, h2⟩, h3⟩, h4⟩ := h
  refine ⟨by rw [D.N]; exact h1, ?_, h3, h4⟩
  unfold Vis
  rw [D.sc]
  rcases h2 with (h2 | h2) | h2
  · exact .inl (isLoc_eq h2)
  · exact .inr (.inl (isCell_eq h2))
  · exact .inr (.inr (isFree_eq h2))
theorem Dy.store (D : Dy Φ st X W) {i : Nat} {x : Str} (h : chkStore st i x = true) : X.N[i]? = some x ∧ L2.Loc X.env.scope x ∧ (X.fn x = true ∨ X.env.scope.names.lookup x = some .local) := by
  unfold chkStore at h
  simp only [Bool.and_eq_true, Bool.or_eq_true, decide_eq_true_eq] at h
  obtain ⟨h1, h2⟩ := h
  refine ⟨by rw [D.N]; exact h1, ?_, ?_⟩
  · unfold L2.Loc
    rw [D.sc]
    rcases h2 with h2 | h2
    · exact .inl (isLoc_eq h2)
    · exact .inr (isCell_eq h2.1)
  · rcases h2 with h2 | h2
    · exact .inr (by rw [D.sc]; exact isLoc_eq h2)
    · exact .inl (D.fnok x h2.2)
theorem Dy.blk (D : Dy Φ st X W) (s : Shared) (H : Hp) (scope : Scope) (C : Addr) (cl : List (Str × Addr)) (fp : List Addr) :
    Dy Φ (inBlk st scope) (X.blk s H scope (compEnvC scope cl C X.env) fp) (fun _ _ _ _ => False) where
  N := D.N
  nd := D.nd
  sc := by
    show _ = relS scope st.sc
    rw [← D.sc]
    rfl
  calm := D.calm
  room := D.room
  fnok := fun x h => h
  takes := takes0
  blt := D.blt
  con := D.con
  fns := D.fns
theorem bare_base {env : PySem.Env} {o : Expr} {f : Str} (h : notBare o = true) : attributeBase o f env (eval o env) = eval o env := by
  unfold attributeBase
  split
  · rename_i e
    cases h
  · rfl
theorem nomarks {op : CmpOp} {e : Expr} (h : plainE e = true) : behindInMarks op e = false := by
  cases e <;> first | rfl | cases h
theorem plainIx {e : Expr} (h : plainE e = true) : PlainIx e := by
  intro o i
  cases e <;> first | rfl | cases h
theorem star_cons {e : Expr} {es : List Expr} {env : PySem.Env} (h : plainE e = true) : starEach (e :: es) env = (false, eval e env) :: starEach es env := by
  cases e <;> first | rfl | cases h
theorem noSetIt {e : Expr} {env : PySem.Env} (h : plainE e = true) : ∀ x, foldedSetIterable e env x = pure x := by
  intro x
  cases e <;> first | rfl | cases h
def plainEs : List Expr → Bool
  | [] => true
  | e :: es => plainE e && plainEs es
theorem star_none : ∀ {es : List Expr} {env : PySem.Env} {pos : Pos}, plainEs es = true → (backTo pos (starEach es env)).any (·.1) = false
  | [], _, _, _ => rfl
  | e :: es, env, pos, h => by
    unfold plainEs at h
    rw [Bool.and_eq_true] at h
    rw [star_cons h.1]
    show (false || (backTo pos (starEach es env)).any (·.1)) = false
    rw [star_none h.2]; rfl
theorem star_all : ∀ {es : List Expr} {env : PySem.Env} {pos : Pos}, plainEs es = true → (backTo pos (starEach es env)).all (fun x => !x.1) = true
  | [], _, _, _ => rfl
  | e :: es, env, pos, h => by
    unfold plainEs at h
    rw [Bool.and_eq_true] at h
    rw [star_cons h.1]
    show (true && (backTo pos (starEach es env)).all (fun x => !x.1)) = true
    rw [star_all h.2]; rfl
theorem chkEs_plain : ∀ {es : CEs} {xs : List Expr}, chkEs st es xs = true → plainEs xs = true ∧ lenEs es = xs.length
  | .nil, [], _ => ⟨rfl, rfl⟩
  | .nil, _ :: _, h => by simp [chkEs] at h
  | .cons e es, [], h => by simp [chkEs] at h
  | .cons e es, y :: ys, h => by
    simp only [chkEs, Bool.and_eq_true] at h
    obtain ⟨a, b⟩ := chkEs_plain h.2
    exact ⟨by simp [plainEs, h.1.1, a], by simp [lenEs, b]⟩

/-! ### a call of a def -/
theorem pe_callV {k : Nat} {f : Addr} {fd : FuncData} {ps : List Str} {sp : Sp} {x : Str} {p pos : Pos} {e : Expr} {es : List Expr} {t : TA}
    (F : FnOk X.prog X.w X.K X.mg X.base (L2.CX X.prog X.w) k f fd ps sp) (hr : Room k X.A) (hg : Gl X x) (hm : X.mg x = some (.ref f)) (hk : PySem.W.keepIn X.K (.ref f) = true) (hb : Binds X.K fd ps []) (tk : Takes X W)
    (ha : PA X (e :: es) t) (hdb : (x == ("__debug__" : Str)) = false) (he : starEach (e :: es) X.env = (false, eval e X.env) :: starEach es X.env) (hpl : (backTo pos (starEach es X.env)).any (·.1) = false) :
    PE X (.Call (.Name x p) (e :: es) [] pos) (fun σ H Q => t σ H fun vs H1 => sp vs H1 Q (fun cls d H2 => W cls d σ H2)) := by
  refine ⟨fun pins s σ H Q I h => ?_⟩
  refine wpAny_Call_Name_kw (ld_glob I hg hm ?_ hdb)
  refine PySem.W.callWith_K (h₀ := X.base) I.ok.mod.kin hk (thn (ha.run pos pins s σ H _ I h) fun us s1 ⟨vs, H1, I1, r, q⟩ => ⟨I1.kIn, ?_⟩) he hpl
  have hl : (us ++ []).length = ps.length := by rw [List.append_nil, ← r.length]; exact F.len _ _ _ _ q
  refine wpAny_call (codeAny_mono (F.run X.A X.stack s1 H1 ⟨us, []⟩ (us ++ []) vs Q (fun cls d H2 => W cls d σ H2) hr I1.env0 (hb s1 us I1.kIn hl) (by rw [List.append_nil]; exact r) q) fun r s' hq => ?_)
  cases r with
  | error e => exact tk e s' (XE.of_call I1 (fun cls d H' h => h) hq)
  | ok fl =>
    cases fl with
    | ret u => exact I1.after hq
    | next => exact False.elim hq
    | brk => exact False.elim hq
    | cont => exact False.elim hq
/-- a ife-expression as a test -/
theorem pt_ife {c a b : Expr} {pos : Pos} {tc ta tb : TT} (hc : PT X c tc) (ha : PT X a ta) (hb : PT X b tb) : PT X (.IfExp c a b pos) (fun σ H Q => tc σ H fun k H1 => if k = true then ta σ H1 Q else tb σ H1 Q) := by
  refine ⟨fun pins s σ H Q I h => ?_⟩
  refine isTrue_IfExp (thn (hc.run pins s σ H _ I h) fun k s1 ⟨H1, I1, q1⟩ => ?_)
  cases k with
  | true => exact ha.run pins s1 σ H1 Q I1 q1
  | false => exact hb.run pins s1 σ H1 Q I1 q1

/-! ### built-in functions, together -/
theorem bi_rule (hc : X.calm = true) {b : Bi} {x : Str} (h : biName b = some x) :
    ((∃ id, bootBuiltins x = some (.builtin id) ∧ CallR X (.builtin id) (rCa X.sy (biD b))) ∨ ∃ T, bootBuiltins x = some (.type T) ∧ CallR X (.type T) (rCa X.sy (biD b))) ∧ x ≠ "__name__" ∧ x ∈ blts := by
  cases b <;> cases h
  · exact ⟨.inl ⟨_, PySem.boot_len, c_len (W := fun _ _ _ _ => False)⟩, by decide, by decide⟩
  · exact ⟨.inl ⟨_, PyProof.Rows.boot_abs, c_abs (W := fun _ _ _ _ => False)⟩, by decide, by decide⟩
  · exact ⟨.inr ⟨_, PyProof.Rows.boot_int, c_int (W := fun _ _ _ _ => False)⟩, by decide, by decide⟩
  · exact ⟨.inr ⟨_, PyProof.Rows.boot_str, c_str (W := fun _ _ _ _ => False)⟩, by decide, by decide⟩
  · exact ⟨.inl ⟨_, PyProof.Rows.boot_sum, c_sum (W := fun _ _ _ _ => False) hc⟩, by decide, by decide⟩
  · exact ⟨.inl ⟨_, PyProof.Rows.boot_max, c_max (W := fun _ _ _ _ => False) hc⟩, by decide, by decide⟩
  · exact ⟨.inl ⟨_, PyProof.Rows.boot_min, c_min (W := fun _ _ _ _ => False) hc⟩, by decide, by decide⟩
  · exact ⟨.inl ⟨_, PyProof.Rows.boot_max, c_max2 (W := fun _ _ _ _ => False) hc⟩, by decide, by decide⟩
  · exact ⟨.inl ⟨_, PyProof.Rows.boot_min, c_min2 (W := fun _ _ _ _ => False) hc⟩, by decide, by decide⟩
  · exact ⟨.inl ⟨_, PyProof.Rows.boot_sorted, c_sorted (W := fun _ _ _ _ => False) hc⟩, by decide, by decide⟩
  · exact ⟨.inr ⟨_, PyProof.Rows.boot_tuple, c_tuple (W := fun _ _ _ _ => False)⟩, by decide, by decide⟩
  · exact ⟨.inl ⟨_, PyProof.Rows.boot_all, c_all (W := fun _ _ _ _ => False) hc⟩, by decide, by decide⟩
theorem is_rule {b : Bi} {t : Str} (h : isName b = some t) : ∃ n ts, t = Str.ofString n ∧ bootBuiltins t = some (.type n) ∧ biD b = on1 (isB ts) ∧ CallR X (.builtin "isinstance") (rIs X.sy n ts) ∧ t ∈ blts := by
  cases b <;> cases h
  · exact ⟨"int", _, rfl, PyProof.Rows.boot_int, rfl, c_is (W := fun _ _ _ _ => False) k_int, by decide⟩
  · exact ⟨"bool", _, rfl, by decide +kernel, rfl, c_is (W := fun _ _ _ _ => False) k_bool, by decide⟩
  · exact ⟨"list", _, rfl, PyProof.Rows.boot_list, rfl, c_is (W := fun _ _ _ _ => False) k_list, by decide⟩
  · exact ⟨"str", _, rfl, PyProof.Rows.boot_str, rfl, c_is (W := fun _ _ _ _ => False) k_str, by decide⟩
  · exact ⟨"tuple", _, rfl, PyProof.Rows.boot_tuple, rfl, c_is (W := fun _ _ _ _ => False) k_tuple, by decide⟩
theorem op_rule {b : BOp} {o : Operator} (h : opOk b o = true) : OpR X (binaryOp o) (rOp X.sy (binD b)) := by
  cases b <;> cases o <;> first | cases h | skip
  · exact o_add (W := fun _ _ _ _ => False)
  · exact o_sub (W := fun _ _ _ _ => False)
  · exact o_mul (W := fun _ _ _ _ => False)
  · exact o_fdiv (W := fun _ _ _ _ => False)
  · exact o_mod (W := fun _ _ _ _ => False)
  · exact o_pow (W := fun _ _ _ _ => False)
theorem cmp_rule (hu : X.A.units + 200 < cLine) {b : COp} {o : CmpOp} (h : cmpOk b o = true) : OpR X (compareOp o) (rTe X.sy (cmpD b)) := by
  cases b <;> cases o <;> first | cases h | skip
  · exact o_eq (W := fun _ _ _ _ => False) (by omega)
  · exact o_ne (W := fun _ _ _ _ => False) (by omega)
  · exact o_lt (W := fun _ _ _ _ => False)
  · exact o_le (W := fun _ _ _ _ => False)
  · exact o_gt (W := fun _ _ _ _ => False)
  · exact o_ge (W := fun _ _ _ _ => False)
  · exact o_in (W := fun _ _ _ _ => False) (by omega)
  · exact o_notIn (W := fun _ _ _ _ => False) (by omega)
  · exact o_is (W := fun _ _ _ _ => False)
  · exact o_isNot (W := fun _ _ _ _ => False)
theorem lit_v {d : PyData} {c : Const} (h : litOk d c = true) : ∃ v, constV c = some v ∧ (∀ S F, Rp S F v d) ∧ ∀ j pos, PE X (.Constant c j pos) (tC v) := by
  unfold litOk at h
  split at h
  · exact ⟨_, rfl, fun _ _ => .non, fun _ _ => pe_non⟩
  · have := eq_of_beq h; subst this
    exact ⟨_, rfl, fun _ _ => .bl _, fun _ _ => pe_bl⟩
  · have := of_decide_eq_true h; subst this
    exact ⟨_, rfl, fun _ _ => .int _, fun _ _ => pe_int⟩
  · have := of_decide_eq_true h; subst this
    exact ⟨_, rfl, fun _ _ => .str _, fun _ _ => pe_str⟩
  · cases h
end
end VI
set_option Elab.async false
set_option linter.all false
set_option autoImplicit false
set_option maxRecDepth 20000
/-! The readings, step by step. -/
namespace VI
open PySem PySem.Spec PyProof.Rows L2

section
variable {S : Sx} {Φ : Fns} {W : WX} {α β : Type} {G F₀ F H : Hp} {σ : L2.St} {ρ : Env}
theorem both_some {f : PyData → PyData → Option α} {x y : Option PyData} {r : α} (h : both f x y = some r) : ∃ a b, x = some a ∧ y = some b ∧ f a b = some r := by
  obtain ⟨a, e1, h⟩ := Option.bind_eq_some_iff.mp h
  obtain ⟨b, e2, h⟩ := Option.bind_eq_some_iff.mp h
  exact ⟨a, b, e1, e2, h⟩
abbrev okV (S : Sx) (σ : L2.St) : Hp → Hp → Env → EV → V → Prop := fun _ F' _ => ValOk S σ F'
abbrev okVs (S : Sx) (σ : L2.St) : Hp → Hp → Env → List EV → List V → Prop := fun _ F' _ => ValsOk S σ F'
/-- two values in a row -/
theorem T_seq2 {a b : CE} {Q : V → V → Hp → Prop} {okQ : Hp → Hp → Env → α → β → Prop} {Qf : β → Hp → Prop} {f : EV → EV → Env → Out α} (R : Rel S G F₀ σ H F ρ)
    (h : Got S W okQ G F₀ σ H F ((ev Φ a ρ).bind fun x ρ => (ev Φ b ρ).bind fun y ρ => f x y ρ) Qf)
    (q : ∀ vx vy x y ρ2 H2 F2, Rel S G F₀ σ H2 F2 ρ2 → ValOk S σ F2 vx x → ValOk S σ F2 vy y → Got S W okQ G F₀ σ H2 F2 (f vx vy ρ2) Qf → Q x y H2) :
    T S Φ W a σ H fun x H1 => T S Φ W b σ H1 fun y H2 => Q x y H2 :=
  ⟨G, F₀, F, ρ, R, (Got.bind (okV S σ) h).imp fun x H1 ⟨F1, vx, ρ1, hh1, ff1, R1, k1, _, h1⟩ =>
    ⟨G, F₀, F1, ρ1, R1, (Got.bind (okV S σ) h1).imp fun y H2 ⟨F2, vy, ρ2, hh2, ff2, R2, k2, _, h2⟩ => q vx vy x y ρ2 H2 F2 R2 (k1.mono ff2) k2 h2⟩⟩
theorem T_two {a b : CE} {Q : V → Hp → Prop} {f : PyData → PyData → Option PyData} (R : Rel S G F₀ σ H F ρ)
    (h : Got S W (okV S σ) G F₀ σ H F ((ev Φ a ρ).bind fun x ρ => (ev Φ b ρ).bind fun y ρ => ofO ((both f (view ρ x) (view ρ y)).map .d) ρ) Q) : tOp (rOp S f) (T S Φ W a) (T S Φ W b) σ H Q :=
  T_seq2 R h fun vx vy x y ρ2 H2 F2 R2 k1 k2 h2 => by
    obtain ⟨r, e, q⟩ := h2.val R2
    obtain ⟨dx, dy, e1, e2, e3⟩ := both_some e
    exact ⟨F2, dx, dy, r, R2.fle, R2.view k1 e1, R2.view k2 e2, e3, q⟩
theorem T_cmp {a b : CE} {Q : V → Hp → Prop} {f : PyData → PyData → Option Bool} (R : Rel S G F₀ σ H F ρ)
    (h : Got S W (okV S σ) G F₀ σ H F ((ev Φ a ρ).bind fun x ρ => (ev Φ b ρ).bind fun y ρ => ofO ((both f (view ρ x) (view ρ y)).map fun t => .d (.bool t)) ρ) Q) : tOp (rTe S f) (T S Φ W a) (T S Φ W b) σ H Q :=
  T_seq2 R h fun vx vy x y ρ2 H2 F2 R2 k1 k2 h2 => by
    obtain ⟨v, e, q⟩ := h2.ofO
    obtain ⟨r, e', rfl⟩ := Option.map_eq_some_iff.mp e
    obtain ⟨dx, dy, e1, e2, e3⟩ := both_some e'
    exact ⟨F2, dx, dy, r, R2.fle, R2.view k1 e1, R2.view k2 e2, e3, q.ret R2 (show Rp S F2 (.bl r) (.bool r) from .bl r)⟩
theorem T_one {a : CE} {Q : V → Hp → Prop} {okQ : Hp → Hp → Env → α → β → Prop} {Qf : β → Hp → Prop} {f : EV → Env → Out α} (R : Rel S G F₀ σ H F ρ)
    (h : Got S W okQ G F₀ σ H F ((ev Φ a ρ).bind f) Qf) (q : ∀ vx x ρ2 H2 F2, Rel S G F₀ σ H2 F2 ρ2 → ValOk S σ F2 vx x → Got S W okQ G F₀ σ H2 F2 (f vx ρ2) Qf → Q x H2) : T S Φ W a σ H Q :=
  ⟨G, F₀, F, ρ, R, (Got.bind (okV S σ) h).imp fun x H1 ⟨F1, vx, ρ1, hh1, ff1, R1, k1, _, h1⟩ => q vx x ρ1 H1 F1 R1 k1 h1⟩
theorem TA_all {es : CEs} {Q : List V → Hp → Prop} {okQ : Hp → Hp → Env → α → β → Prop} {Qf : β → Hp → Prop} {f : List EV → Env → Out α} (R : Rel S G F₀ σ H F ρ)
    (h : Got S W okQ G F₀ σ H F ((evs Φ es ρ).bind f) Qf) (q : ∀ vx x ρ2 H2 F2, Rel S G F₀ σ H2 F2 ρ2 → ValsOk S σ F2 vx x → Got S W okQ G F₀ σ H2 F2 (f vx ρ2) Qf → Q x H2) : TS' S Φ W es σ H Q :=
  ⟨G, F₀, F, ρ, R, (Got.bind (okVs S σ) h).imp fun x H1 ⟨F1, vx, ρ1, hh1, ff1, R1, k1, _, h1⟩ => q vx x ρ1 H1 F1 R1 k1 h1⟩
theorem bind_assoc' {γ δ ε : Type} (m : Out γ) (f : γ → Env → Out δ) (g : δ → Env → Out ε) : (m.bind f).bind g = m.bind fun a ρ => (f a ρ).bind g := by
  cases m <;> rfl
theorem bind_ret {γ : Type} (m : Out γ) : (m.bind fun a ρ => .ok a ρ) = m := by
  cases m <;> rfl
/-- a test, from its value -/
theorem TB_val {X : Cx} {c : CE} {Q : Bool → Hp → Prop} (h : TB X.sy Φ W c σ H Q) : T X.sy Φ W c σ H fun x H' => ∃ k, TruV X.K x H' k ∧ Q k H' := by
  obtain ⟨G, F₀, F, ρ, R, h⟩ := h
  refine T_one R h fun vx x ρ2 H2 F2 R2 k h2 => ?_
  rw [← bind_ret (truE vx ρ2)] at h2
  obtain ⟨t, tv, e, h3⟩ := h2.tru R2 k
  exact ⟨t, tv, h3.ret R2 rfl⟩
/-- freezing what can be seen -/
theorem freeze_view {v : EV} {d : PyData} (h : view ρ v = some d) : ∃ ρ', freeze v ρ = .ok d ρ' ∧ ∀ u, view ρ u = view ρ' u := by
  cases v with
  | d x => cases h; exact ⟨ρ, rfl, fun _ => rfl⟩
  | own i =>
    have h : (ρ[i]?).bind slotD = some d := h
    refine ⟨ρ.set i (.d d), ?_, fun u => ?_⟩
    · unfold VI.freeze
      simp only [h]
    · cases u with
      | d x => rfl
      | own j =>
        show (ρ[j]?).bind slotD = ((ρ.set i (.d d))[j]?).bind slotD
        by_cases hj : j = i
        · subst hj
          obtain ⟨s, e, _⟩ := Option.bind_eq_some_iff.mp h
          rw [List.getElem?_set_self (List.getElem?_eq_some_iff.mp e).1, h]
          rfl
        · rw [List.getElem?_set_ne (Ne.symm hj)]
theorem views_eq {ρ' : Env} (h : ∀ u, view ρ u = view ρ' u) : ∀ vs, views ρ vs = views ρ' vs
  | [] => rfl
  | v :: vs => by
    unfold VI.views
    rw [h v, views_eq h vs]
theorem freezeAll_views : ∀ (vs : List EV) (ρ : Env) (ds : List PyData), views ρ vs = some ds → ∃ ρ', freezeAll vs ρ = .ok ds ρ'
  | [], ρ, ds, h => by cases h; exact ⟨ρ, rfl⟩
  | v :: vs, ρ, ds, h => by
    unfold VI.views at h
    split at h
    · rename_i h1 h2
      cases h
      obtain ⟨ρ1, e1, e2⟩ := freeze_view h1
      rw [views_eq e2] at h2
      obtain ⟨ρ2, e3⟩ := freezeAll_views vs ρ1 _ h2
      refine ⟨ρ2, ?_⟩
      unfold VI.freezeAll
      rw [e1]
      show (VI.freezeAll vs ρ1).bind _ = _
      rw [e3]
      rfl
    · cases h
theorem Rel.freezeAll : ∀ (vs : List EV) (xs : List V) (ρ : Env) (F : Hp) (ds : List PyData) (ρ' : Env), VI.freezeAll vs ρ = .ok ds ρ' → Rel S G F₀ σ H F ρ → ValsOk S σ F vs xs → ∃ F', Same F F' ∧ RpAll S F' xs ds ∧ Rel S G F₀ σ H F' ρ' := by
  intro vs
  induction vs with
  | nil =>
    intro xs ρ F ds ρ' h R k
    cases k
    cases h
    exact ⟨F, Same.refl _, .nil, R⟩
  | cons v vs ih =>
    intro xs ρ F ds ρ' h R k
    cases k with
    | cons k r =>
      unfold VI.freezeAll at h
      cases e : VI.freeze v ρ with
      | stuck => rw [e] at h; cases h
      | exc x r => rw [e] at h; cases h
      | ok d ρ1 =>
        rw [e] at h
        have h : ((VI.freezeAll vs ρ1).bind fun xs ρ => .ok (d :: xs) ρ) = Out.ok ds ρ' := h
        cases e2 : VI.freezeAll vs ρ1 with
        | stuck => rw [e2] at h; cases h
        | exc x r => rw [e2] at h; cases h
        | ok ds2 ρ2 =>
          rw [e2] at h
          cases h
          obtain ⟨F1, f1, r1, R1⟩ := R.freeze k e
          obtain ⟨F2, f2, r2, R2⟩ := ih _ _ _ _ _ e2 R1 (r.mono f1)
          exact ⟨F2, f1.trans f2, .cons (r1.mono f2) r2, R2⟩
theorem Rp.scalar {F F' : Hp} {x : V} {d : PyData} (h : Rp S F x d) (s : isScalar d = true) : Rp S F' x d := by
  cases h with
  | non => exact .non
  | bl b => exact .bl b
  | int i => exact .int i
  | str i => exact .str i
  | lst _ _ => cases s
  | tup _ _ => cases s
  | dicK _ _ _ e => subst e; cases s
  | dicT _ _ _ e => subst e; cases s
/-- the caller's part of a call -/
theorem T_call {f n : Nat} {es : CEs} {Q : V → Hp → Prop} (R : Rel S G F₀ σ H F ρ) (hn : ∀ {vs xs H F ρ}, evs Φ es ρ = .ok vs H → ValsOk S σ F vs xs → xs.length = n)
    (h : Got S W (okV S σ) G F₀ σ H F ((evs Φ es ρ).bind fun vs ρ => (ofO (views ρ vs) ρ).bind fun xs ρ => callE (Φ f xs) vs ρ) Q) :
    TS' S Φ W es σ H fun vs H1 => spF S Φ f n vs H1 Q (fun cls d H2 => W cls d σ H2) :=
  ⟨G, F₀, F, ρ, R, (Got.bind (okVs S σ) h).imp fun xs H1 ⟨F1, vs, ρ1, hh1, ff1, R1, k1, e0, h1⟩ => by
    cases e : VI.views ρ1 vs with
    | none => rw [e] at h1; exact h1.elim
    | some ds =>
      rw [e] at h1
      have h1 : Got S W (okV S σ) G F₀ σ H1 F1 (callE (Φ f ds) vs ρ1) Q := h1
      obtain ⟨ρ2, e2⟩ := freezeAll_views vs ρ1 ds e
      obtain ⟨F2, ff2, rs, R2⟩ := R1.freezeAll vs xs ρ1 F1 ds ρ2 e2 k1
      refine ⟨F2, ds, R2.fle, rs, hn e0 k1, ?_⟩
      have low : ∀ {H' F' : Hp}, Ext H1 F2 H' F' → Ext H1 F1 H' F1 := fun E => ⟨E.hh, Same.refl _, R1.fle.trans E.hh, fun _ z => .inl z⟩
      cases hp : Φ f ds with
      | stuck => rw [hp] at h1; exact h1.elim
      | exc e =>
        rw [hp] at h1
        exact fun cls d H' F' E ex => h1 cls d H' F1 E.hh (Same.refl _) (R1.ext (low E)) ex
      | ok r =>
        rw [hp] at h1
        have h1 : Got S W (okV S σ) G F₀ σ H1 F1 (if isScalar r then .ok (.d r) ρ1 else (VI.freezeAll vs ρ1).bind fun _ ρ => .ok (.d r) ρ) Q := h1
        split at h1
        · rename_i hs
          exact fun x H' F' E k => h1 x H' F1 E.hh (Same.refl _) (R1.ext (low E)) (Rp.scalar (S := S) k hs)
        · rw [e2] at h1
          exact fun x H' F' E k => h1 x H' F' E.hh (ff2.trans E.ff) (R2.ext E) k
    ⟩
end
end VI
set_option Elab.async false
set_option linter.all false
set_option autoImplicit false
set_option maxRecDepth 20000
/-! Targets, what is walked, comprehensions. -/
namespace VI
open PySem PySem.Spec PyProof.Rows L2

section
variable {S : Sx} {Φ : Fns} {W : WX} {G F₀ F H : Hp} {σ : L2.St} {ρ : Env}
/-! ### slots forgotten, slots as they were -/
theorem plain_own {s : SV} (p : plainS s = true) (o : ownS s = true) : False := by
  cases s <;> simp [plainS, ownS] at p o
theorem wipe_get (σ : L2.St) : ∀ (vs : List Nat) (j : Nat), (L2.wipe σ vs)[j]? = if j ∈ vs ∧ j < σ.length then some none else σ[j]?
  | [], j => by simp [L2.wipe]
  | v :: vs, j => by
    show ((L2.wipe σ vs).set v none)[j]? = _
    rw [List.getElem?_set, wipe_get σ vs j, L2.wipe_length]
    by_cases hv : v = j
    · subst hv
      by_cases hl : v < σ.length
      · simp [hl]
      · simp [hl, List.getElem?_eq_none (Nat.le_of_not_lt hl)]
    · rw [if_neg hv]
      have : j ≠ v := fun e => hv e.symm
      simp [this]
theorem wipeE_len (ρ : Env) : ∀ vs : List Nat, (wipeE ρ vs).length = ρ.length
  | [] => rfl
  | v :: vs => by unfold wipeE; rw [List.length_set, wipeE_len ρ vs]
theorem wipeE_get (ρ : Env) : ∀ (vs : List Nat) (j : Nat), (wipeE ρ vs)[j]? = if j ∈ vs ∧ j < ρ.length then some .unb else ρ[j]?
  | [], j => by simp [wipeE]
  | v :: vs, j => by
    show ((wipeE ρ vs).set v .unb)[j]? = _
    rw [List.getElem?_set, wipeE_get ρ vs j, wipeE_len]
    by_cases hv : v = j
    · subst hv
      by_cases hl : v < ρ.length
      · simp [hl]
      · simp [hl, List.getElem?_eq_none (Nat.le_of_not_lt hl)]
    · rw [if_neg hv]
      have : j ≠ v := fun e => hv e.symm
      simp [this]
theorem backE_len (ρ₀ ρ : Env) : ∀ vs : List Nat, (backE ρ₀ ρ vs).length = ρ.length
  | [] => rfl
  | v :: vs => by unfold backE; rw [List.length_set, backE_len ρ₀ ρ vs]
theorem backE_get (ρ₀ ρ : Env) : ∀ (vs : List Nat) (j : Nat), (backE ρ₀ ρ vs)[j]? = if j ∈ vs ∧ j < ρ.length then some (ρ₀[j]?.getD .unb) else ρ[j]?
  | [], j => by simp [backE]
  | v :: vs, j => by
    show ((backE ρ₀ ρ vs).set v (ρ₀[v]?.getD .unb))[j]? = _
    rw [List.getElem?_set, backE_get ρ₀ ρ vs j, backE_len]
    by_cases hv : v = j
    · subst hv
      by_cases hl : v < ρ.length
      · simp [hl]
      · simp [hl, List.getElem?_eq_none (Nat.le_of_not_lt hl)]
    · rw [if_neg hv]
      have : j ≠ v := fun e => hv e.symm
      simp [this]
theorem wipe_set {vs : List Nat} {i : Nat} {v : Option V} (h : i ∈ vs) : L2.wipe (σ.set i v) vs = L2.wipe σ vs := by
  apply List.ext_getElem?
  intro j
  rw [wipe_get, wipe_get, List.length_set]
  by_cases hj : j ∈ vs ∧ j < σ.length
  · rw [if_pos hj, if_pos hj]
  · rw [if_neg hj, if_neg hj]
    by_cases e : i = j
    · subst e
      have hl : ¬ i < σ.length := fun z => hj ⟨h, z⟩
      rw [List.getElem?_eq_none (by simpa using hl), List.getElem?_eq_none (by simpa using hl)]
    · rw [List.getElem?_set_ne e]
theorem wipe_wipe (vs : List Nat) : L2.wipe (L2.wipe σ vs) vs = L2.wipe σ vs := by
  apply List.ext_getElem?
  intro j
  rw [wipe_get, wipe_get, L2.wipe_length]
  split <;> rfl

/-! ### the guarded heap -/
theorem Rel.at (R : Rel S G F₀ σ H F ρ) {D : Addr} (o : HO) (fD : F D = none) (no : ∀ (i : Nat) s, ρ[i]? = some s → ownS s = true → σ[i]? ≠ some (some (.ref D))) : Rel S (upd G D o) F₀ σ (upd H D o) F ρ := by
  refine ⟨fun b u q => ?_, fun b u q => ?_, fun b g f => ?_, R.old, R.len, fun i s hs => ?_, R.apart⟩
  · by_cases hb : b = D
    · subst hb; rw [upd_same] at q ⊢; exact q
    · rw [upd_ne hb] at q ⊢; exact R.gle _ _ q
  · have hb : b ≠ D := fun e => by subst e; rw [fD] at q; cases q
    rw [upd_ne hb]; exact R.fle _ _ q
  · have hb : b ≠ D := fun e => by subst e; exact f fD
    rw [upd_ne hb] at g
    exact R.new b g f
  · have z := R.slot i s hs
    cases s with
    | unb => exact z
    | d x => exact z
    | lst ds =>
      obtain ⟨p, xs, e1, h1, h2, h3, h4⟩ := z
      have hp : p ≠ D := fun e => by subst e; exact no i _ hs rfl e1
      exact ⟨p, xs, e1, by rw [upd_ne hp]; exact h1, h2, h3, by rw [upd_ne hp]; exact h4⟩
    | dic ds =>
      obtain ⟨p, xs, e1, h1, h2, h3, h4⟩ := z
      have hp : p ≠ D := fun e => by subst e; exact no i _ hs rfl e1
      exact ⟨p, xs, e1, by rw [upd_ne hp]; exact h1, h2, h3, by rw [upd_ne hp]; exact h4⟩
    | obj _ _ => exact z
theorem Rel.addG (R : Rel S G F₀ σ H F ρ) {D : Addr} (o : HO) (h : H D = none) : Rel S (upd G D o) F₀ σ (upd H D o) F ρ := by
  refine R.at o (R.fle.free h) fun i s hs os e => ?_
  obtain ⟨p, u, e1, h1, _⟩ := (R.slot i s hs).own_at os
  rw [e] at e1
  cases e1
  rw [h] at h1
  cases h1
theorem Rel.noD {D : Addr} {o : HO} (R : Rel S (upd G D o) F₀ σ H F ρ) (f0 : F₀ D = none) : F D = none ∧ ∀ (i : Nat) s, ρ[i]? = some s → ownS s = true → σ[i]? ≠ some (some (.ref D)) := by
  refine ⟨?_, fun i s hs os e => ?_⟩
  · cases z : F D with
    | none => rfl
    | some u =>
      have := R.new D (by rw [upd_same]; simp) (by rw [z]; simp)
      exact absurd f0 this
  · obtain ⟨p, u, e1, _, _, h1⟩ := (R.slot i s hs).own_at os
    rw [e] at e1
    cases e1
    rw [upd_same] at h1
    cases h1
theorem Rel.reD {D : Addr} {o : HO} (R : Rel S (upd G D o) F₀ σ H F ρ) (f0 : F₀ D = none) (o' : HO) : Rel S (upd G D o') F₀ σ (upd H D o') F ρ := by
  obtain ⟨h1, h2⟩ := R.noD f0
  have := R.at o' h1 h2
  rwa [upd_upd] at this
theorem Rel.dropG {D : Addr} {o : HO} (R : Rel S (upd G D o) F₀ σ H F ρ) (h : G D = none) : Rel S G F₀ σ H F ρ := by
  have e : ∀ b, G b ≠ none → (upd G D o) b = G b := fun b g => by
    have hb : b ≠ D := fun e => by subst e; exact g h
    rw [upd_ne hb]
  refine ⟨fun b u q => R.gle b u (by rw [e b (by rw [q]; simp)]; exact q), R.fle, fun b g f => R.new b (by rw [e b g]; exact g) f, R.old, R.len, fun i s hs => ?_, R.apart⟩
  have low : ∀ p, (upd G D o) p = none → G p = none := fun p q => by
    cases z : G p with
    | none => rfl
    | some u => rw [e p (by rw [z]; simp), z] at q; cases q
  have z := R.slot i s hs
  cases s with
  | unb => exact z
  | d x => exact z
  | lst ds =>
    obtain ⟨p, xs, e1, h1, h2, h3, h4⟩ := z
    exact ⟨p, xs, e1, h1, h2, h3, low p h4⟩
  | dic ds =>
    obtain ⟨p, xs, e1, h1, h2, h3, h4⟩ := z
    exact ⟨p, xs, e1, h1, h2, h3, low p h4⟩
  | obj _ _ => exact z
/-- behind a block -/
theorem Rel.back {H1 F1 : Hp} {ρ1 : Env} {vs : List Nat} (R1 : Rel S G F₀ σ H1 F1 ρ1) (ok : okWipe ρ1 vs = true) (ff : Same F1 F) (R : Rel S G F₀ (L2.wipe σ vs) H F (wipeE ρ vs)) : Rel S G F₀ σ H F (backE ρ1 ρ vs) := by
  have l1 : ρ.length = σ.length := by
    have := R.len
    rwa [wipeE_len, L2.wipe_length] at this
  have pl : ∀ j, j ∈ vs → ∃ s, ρ1[j]? = some s ∧ plainS s = true := fun j hj => by
    have := List.all_eq_true.mp ok j hj
    split at this
    · exact ⟨_, by assumption, this⟩
    · cases this
  -- a slot: in vs, or not
  have cs : ∀ j s, (backE ρ1 ρ vs)[j]? = some s → (j ∈ vs ∧ ρ1[j]? = some s ∧ plainS s = true) ∨ (j ∉ vs ∧ (wipeE ρ vs)[j]? = some s ∧ (L2.wipe σ vs)[j]? = σ[j]?) := by
    intro j s hs
    rw [backE_get] at hs
    by_cases hj : j ∈ vs
    · by_cases hl : j < ρ.length
      · rw [if_pos ⟨hj, hl⟩] at hs
        obtain ⟨s', e, p⟩ := pl j hj
        rw [e] at hs
        cases hs
        exact .inl ⟨hj, e, p⟩
      · rw [if_neg (fun z => hl z.2), List.getElem?_eq_none (by omega)] at hs
        cases hs
    · rw [if_neg (fun z => hj z.1)] at hs
      refine .inr ⟨hj, ?_, ?_⟩
      · rw [wipeE_get, if_neg (fun z => hj z.1)]; exact hs
      · rw [wipe_get, if_neg (fun z => hj z.1)]
  refine ⟨R.gle, R.fle, R.new, R.old, by rw [backE_len]; exact l1, fun j s hs => ?_, fun i j p s t hij hs ht os ot ei ej => ?_⟩
  · rcases cs j s hs with ⟨hj, e, p⟩ | ⟨hj, e, p⟩
    · have z := R1.slot j s e
      cases s with
      | unb => exact z
      | d x => obtain ⟨u, e1, h1⟩ := z; exact ⟨u, e1, h1.mono ff⟩
      | _ => cases p
    · have z := R.slot j s e
      rw [p] at z
      exact z
  · rcases cs i s hs with ⟨hj, e, q⟩ | ⟨hj, e, q⟩
    · exact (plain_own q os).elim
    · rcases cs j t ht with ⟨hj', e', q'⟩ | ⟨hj', e', q'⟩
      · exact (plain_own q' ot).elim
      · exact R.apart i j p s t hij e e' os ot (by rw [q]; exact ei) (by rw [q']; exact ej)

theorem back_own {ρ1 : Env} {vs : List Nat} (ok : okWipe ρ1 vs = true) {j : Nat} {t : SV} (h : (backE ρ1 ρ vs)[j]? = some t) (ot : ownS t = true) : (wipeE ρ vs)[j]? = some t ∧ (L2.wipe σ vs)[j]? = σ[j]? := by
  rw [backE_get] at h
  by_cases hj : j ∈ vs
  · by_cases hl : j < ρ.length
    · rw [if_pos ⟨hj, hl⟩] at h
      have := List.all_eq_true.mp ok j hj
      split at this
      · rename_i s e
        rw [e] at h
        cases h
        exact (plain_own this ot).elim
      · cases this
    · rw [if_neg (fun z => hl z.2), List.getElem?_eq_none (by omega)] at h
      cases h
  · rw [if_neg (fun z => hj z.1)] at h
    exact ⟨by rw [wipeE_get, if_neg (fun z => hj z.1)]; exact h, by rw [wipe_get, if_neg (fun z => hj z.1)]⟩

/-! ### targets -/
def gsOf : List Nat → TGs
  | [] => gNil
  | i :: is => gCons (gName i) (gsOf is)
def gOf (K : PySem.W.Frag) : Tg → TG
  | .name i => gName i
  | .tup is => gTup K is.length (gsOf is)
theorem gs_set : ∀ {is : List Nat} {ys : List V} {xs : List PyData} {σ : L2.St} {ρ : Env} {Q : L2.St → Hp → Prop}, Rel S G F₀ σ H F ρ → RpAll S F ys xs → xs.length = is.length →
    (∀ σ2, Rel S G F₀ σ2 H F (setAll is xs ρ) → (∀ vs, (is.all fun i => decide (i ∈ vs)) = true → L2.wipe σ2 vs = L2.wipe σ vs) → Q σ2 H) → gsOf is ys σ H Q
  | [], [], [], σ, ρ, Q, R, _, _, q => ⟨rfl, q σ R fun _ _ => rfl⟩
  | i :: is, y :: ys, x :: xs, σ, ρ, Q, R, .cons r rr, hl, q => by
    refine ⟨y, ys, rfl, ?_⟩
    show gsOf is ys (σ.set i (some y)) H Q
    refine gs_set (R.set r) rr (by simpa using hl) fun σ2 R2 w2 => q σ2 R2 fun vs h => ?_
    rw [List.all_cons, Bool.and_eq_true] at h
    rw [w2 vs h.2]
    exact wipe_set (of_decide_eq_true h.1)
  | [], _ :: _, _, _, _, _, _, r, hl, _ => by cases r; simp at hl
  | _ :: _, [], _, _, _, _, _, r, hl, _ => by cases r; simp at hl
  | [], [], _ :: _, _, _, _, _, r, _, _ => by cases r
  | _ :: _, _ :: _, [], _, _, _, _, r, _, _ => by cases r
theorem g_set {tg : Tg} {x : PyData} {y : V} {ρ' : Env} {Q : L2.St → Hp → Prop} (R : Rel S G F₀ σ H F ρ) (r : Rp S F y x) (h : asg tg x ρ = some ρ')
    (q : ∀ σ2, Rel S G F₀ σ2 H F ρ' → (∀ vs, slotsIn vs tg = true → L2.wipe σ2 vs = L2.wipe σ vs) → Q σ2 H) : gOf S.K tg y σ H Q := by
  cases tg with
  | name i =>
    cases h
    exact q _ (R.set r) fun vs h => wipe_set (of_decide_eq_true h)
  | tup is =>
    unfold asg at h
    simp only at h
    split at h
    · rename_i xs
      split at h
      · rename_i hl
        cases h
        obtain ⟨a, ys, rfl, h1, h2⟩ := r.tupE
        exact ⟨a, ys, rfl, SqT.same R.fle h1, by rw [h2.length]; exact hl, gs_set R h2 hl q⟩
      · cases h
    · cases h
section
variable {st : Stc} {X : Cx}
theorem pgs_of (D : Dy Φ st X W) : ∀ {is : List Nat} {es : List Expr}, chkTgs st is es = true → PGs X es (gsOf is) ∧ (assignEach es X.env).length = is.length ∧ (assignEach es X.env).findIdx? (·.1) = none
  | [], [], _ => ⟨pgs_nil, rfl, rfl⟩
  | i :: is, e :: es, h => by
    cases e <;> simp only [chkTgs] at h <;> first | cases h | skip
    rename_i x p
    rw [Bool.and_eq_true] at h
    obtain ⟨h1, h2, h3⟩ := D.store h.1
    obtain ⟨a, b, c⟩ := pgs_of D h.2
    refine ⟨pgs_cons (pg_name (by rw [D.N]; exact D.nd) h1 h2 h3) a rfl, ?_, ?_⟩
    · show (assignEach es X.env).length + 1 = is.length + 1
      rw [b]
    · show ((false, _) :: assignEach es X.env).findIdx? (·.1) = none
      rw [List.findIdx?_cons, c]
      rfl
  | [], _ :: _, h => by simp [chkTgs] at h
  | _ :: _, [], h => by simp [chkTgs] at h
theorem pg_of (D : Dy Φ st X W) {tg : Tg} {e : Expr} (h : chkTg st tg e = true) : PG X e (gOf X.K tg) := by
  cases tg with
  | name i =>
    cases e <;> simp only [chkTg] at h <;> first | cases h | skip
    obtain ⟨h1, h2, h3⟩ := D.store h
    exact pg_name (by rw [D.N]; exact D.nd) h1 h2 h3
  | tup is =>
    cases e <;> simp only [chkTg] at h <;> first | cases h | skip
    obtain ⟨a, b, c⟩ := pgs_of D h
    exact pg_tup D.calm a b c
end
end
end VI
set_option Elab.async false
set_option linter.all false
set_option autoImplicit false
set_option maxRecDepth 20000
/-! A closed dict locked while a comprehension walks it. -/
namespace VI
open PySem PySem.Spec PyProof.Rows L2
section
variable {S : Sx} {F F' : Hp} {d : Addr} {ks : List (Key × V)}
/-- alike but for the lock at d -/
structure Sw (F F' : Hp) (d : Addr) (ks : List (Key × V)) : Prop where
  l : Rd F d (.dK ks)
  r : Rd F' d (.dK ks)
  off : ∀ b, b ≠ d → F b = F' b
theorem rd_one {a : Addr} {u v : HO} (hu : ∀ o w, u ≠ .frz o w) (hv : ∀ o w, v ≠ .frz o w) (h : Rd F a u) (h' : Rd F a v) : u = v := by
  rcases h with h | ⟨o, h⟩ <;> rcases h' with h' | ⟨o', h'⟩ <;> rw [h] at h' <;> cases h'
  · rfl
  · exact absurd rfl (hu _ _)
  · exact absurd rfl (hv _ _)
  · rfl
theorem Sw.rd (e : Sw F F' d ks) {a : Addr} {u : HO} (h : Rd F a u) (hu : ∀ o w, u ≠ .frz o w) : Rd F' a u := by
  by_cases hb : a = d
  · subst hb
    rw [rd_one (v := .dK ks) hu (fun _ _ z => nomatch z) h e.l]
    exact e.r
  · rcases h with h | ⟨o, h⟩
    · exact .inl (by rw [← e.off a hb]; exact h)
    · exact .inr ⟨o, by rw [← e.off a hb]; exact h⟩
theorem Sw.ext (e : Sw F F' d ks) {a : Addr} {φ : Heap → Prop} (h : F a = some (.ext φ)) : F' a = some (.ext φ) := by
  by_cases hb : a = d
  · subst hb
    have := rd_one (u := .ext φ) (v := .dK ks) (fun _ _ z => nomatch z) (fun _ _ z => nomatch z) (.inl h) e.l
    cases this
  · rw [← e.off a hb]; exact h
theorem Sw.sqL (e : Sw F F' d ks) {K : PySem.W.Frag} {a : Addr} {xs : List V} (h : SqL K F a xs) : SqL K F' a xs := by
  rcases h with h | h
  · exact .inl (e.rd h fun _ _ z => nomatch z)
  · exact .inr h
theorem Sw.sqT (e : Sw F F' d ks) {K : PySem.W.Frag} {a : Addr} {xs : List V} (h : SqT K F a xs) : SqT K F' a xs := by
  rcases h with h | h
  · exact .inl (e.rd h fun _ _ z => nomatch z)
  · exact .inr h
mutual
theorem Rp.sw (e : Sw F F' d ks) : ∀ {v : V} {x : PyData}, Rp S F v x → Rp S F' v x
  | _, _, .non => .non
  | _, _, .bl b => .bl b
  | _, _, .int i => .int i
  | _, _, .str x => .str x
  | _, _, .lst h r => .lst (e.sqL h) (RpAll.sw e r)
  | _, _, .tup h r => .tup (e.sqT h) (RpAll.sw e r)
  | _, _, .dicK h r n q => .dicK (e.rd h fun _ _ z => nomatch z) (RpK.sw e r) n q
  | _, _, .dicT h r n q => .dicT (e.ext h) (RpT.sw e r) n q
theorem RpAll.sw (e : Sw F F' d ks) : ∀ {vs : List V} {ds : List PyData}, RpAll S F vs ds → RpAll S F' vs ds
  | _, _, .nil => .nil
  | _, _, .cons h r => .cons (Rp.sw e h) (RpAll.sw e r)
theorem RpK.sw (e : Sw F F' d ks) : ∀ {vs : List (Key × V)} {ds : List (NK × PyData)}, RpK S F vs ds → RpK S F' vs ds
  | _, _, .nil => .nil
  | _, _, .cons k h r => .cons k (Rp.sw e h) (RpK.sw e r)
theorem RpT.sw (e : Sw F F' d ks) : ∀ {vs : List (NK × Addr × V)} {ds : List (NK × PyData)}, RpT S F vs ds → RpT S F' vs ds
  | _, _, .nil => .nil
  | _, _, .cons k b h r => .cons k (Rp.sw e b) (Rp.sw e h) (RpT.sw e r)
end
theorem DicR.sw (e : Sw F F' d ks) {a : Addr} {o : HO} {kvs : List (NK × PyData)} (h : DicR S F a o kvs) : DicR S F' a o kvs := by
  rcases h with ⟨ks, q, r, n⟩ | ⟨ks, q, r, n⟩
  · exact .inl ⟨ks, q, r.sw e, n⟩
  · exact .inr ⟨ks, q, r.sw e, n⟩
end
section
variable {S : Sx} {G F₀ F H : Hp} {σ σ2 : L2.St} {ρ ρ2 : Env} {d : Addr} {ks : List (Key × V)} {od : Obj}
/-- what is guarded, with the lock -/
def lkG (G : Hp) (d : Addr) (o : HO) : Hp := fun b => if b = d then (if (G d).isSome then some o else none) else G b
theorem lkG_none {b : Addr} {o : HO} : lkG G d o b = none ↔ G b = none := by
  unfold lkG
  by_cases h : b = d
  · subst h
    cases G b <;> simp
  · simp [h]
theorem Rel.lock (R : Rel S G F₀ σ H F ρ) (h : F d = some (.dK ks)) : Rel S (lkG G d (.frz od (.dK ks))) (upd F d (.frz od (.dK ks))) σ (upd H d (.frz od (.dK ks))) (upd F d (.frz od (.dK ks))) ρ := by
  have sw : Sw F (upd F d (.frz od (.dK ks))) d ks := ⟨.inl h, .inr ⟨od, upd_same⟩, fun b hb => (upd_ne hb).symm⟩
  have nd : ∀ p, F p = none → p ≠ d := fun p hp e => by rw [e, h] at hp; cases hp
  refine ⟨fun b o q => ?_, fun b o q => ?_, fun b _ f => f, Same.refl _, R.len, fun i s hs => ?_, R.apart⟩
  · unfold lkG at q
    by_cases hb : b = d
    · subst hb
      rw [if_pos rfl] at q
      split at q
      · rw [upd_same]; exact q
      · cases q
    · rw [if_neg hb] at q
      rw [upd_ne hb]; exact R.gle b o q
  · by_cases hb : b = d
    · subst hb; rw [upd_same] at q ⊢; exact q
    · rw [upd_ne hb] at q ⊢; exact R.fle b o q
  · have := R.slot i s hs
    cases s with
    | unb => exact this
    | d x => obtain ⟨u, e1, h1⟩ := this; exact ⟨u, e1, h1.sw sw⟩
    | lst ds =>
      obtain ⟨p, xs, e1, h1, h2, h3, h4⟩ := this
      exact ⟨p, xs, e1, by rw [upd_ne (nd p h3)]; exact h1, h2.sw sw, by rw [upd_ne (nd p h3)]; exact h3, lkG_none.mpr h4⟩
    | dic kvs =>
      obtain ⟨p, o, e1, h1, h2, h3, h4⟩ := this
      exact ⟨p, o, e1, by rw [upd_ne (nd p h3)]; exact h1, h2.sw sw, by rw [upd_ne (nd p h3)]; exact h3, lkG_none.mpr h4⟩
    | obj _ _ => exact this
theorem Rel.unlock {H2 F2 : Hp} (R : Rel S G F₀ σ H F ρ) (h : F d = some (.dK ks)) (ff : Same (upd F d (.frz od (.dK ks))) F2) (R2 : Rel S (lkG G d (.frz od (.dK ks))) (upd F d (.frz od (.dK ks))) σ2 H2 F2 ρ2) :
    F2 d = some (.frz od (.dK ks)) ∧ H2 d = some (.frz od (.dK ks)) ∧ Same F (upd F2 d (.dK ks)) ∧ Rel S G F₀ σ2 (upd H2 d (.dK ks)) (upd F2 d (.dK ks)) ρ2 ∧ Sw F2 (upd F2 d (.dK ks)) d ks := by
  have f2 : F2 d = some (.frz od (.dK ks)) := ff d _ upd_same
  have h2 : H2 d = some (.frz od (.dK ks)) := R2.fle d _ f2
  have sw : Sw F2 (upd F2 d (.dK ks)) d ks := ⟨.inr ⟨od, f2⟩, .inl upd_same, fun b hb => (upd_ne hb).symm⟩
  have nd : ∀ p, F2 p = none → p ≠ d := fun p hp e => by rw [e, f2] at hp; cases hp
  have hFF : Same F (upd F2 d (.dK ks)) := fun b o q => by
    by_cases hb : b = d
    · subst hb; rw [upd_same]; rw [h] at q; exact q
    · rw [upd_ne hb]; exact ff b o (by rw [upd_ne hb]; exact q)
  refine ⟨f2, h2, hFF, ⟨fun b o q => ?_, fun b o q => ?_, fun b g f => ?_, R.old.trans hFF, R2.len, fun i s hs => ?_, R2.apart⟩, sw⟩
  · by_cases hb : b = d
    · subst hb
      have e := R.gle b o q
      have e2 := R.fle b _ h
      rw [e2] at e
      rw [upd_same]; exact e
    · rw [upd_ne hb]
      exact R2.gle b o (by unfold lkG; rw [if_neg hb]; exact q)
  · by_cases hb : b = d
    · subst hb; rw [upd_same] at q ⊢; exact q
    · rw [upd_ne hb] at q ⊢; exact R2.fle b o q
  · refine R.new b g ?_
    by_cases hb : b = d
    · rw [hb, h]; simp
    · rw [upd_ne hb] at f
      have := R2.new b (fun z => g (lkG_none.mp z)) f
      rwa [upd_ne hb] at this
  · have := R2.slot i s hs
    cases s with
    | unb => exact this
    | d x => obtain ⟨u, e1, h1⟩ := this; exact ⟨u, e1, h1.sw sw⟩
    | lst ds =>
      obtain ⟨p, xs, e1, h1, h2, h3, h4⟩ := this
      exact ⟨p, xs, e1, by rw [upd_ne (nd p h3)]; exact h1, h2.sw sw, by rw [upd_ne (nd p h3)]; exact h3, lkG_none.mp h4⟩
    | dic kvs =>
      obtain ⟨p, o, e1, h1, h2, h3, h4⟩ := this
      exact ⟨p, o, e1, by rw [upd_ne (nd p h3)]; exact h1, h2.sw sw, by rw [upd_ne (nd p h3)]; exact h3, lkG_none.mp h4⟩
    | obj _ _ => exact this
end
end VI
set_option Elab.async false
set_option linter.all false
set_option autoImplicit false
set_option maxRecDepth 20000
/-! What is walked; comprehensions. -/
namespace VI
open PySem PySem.Spec PyProof.Rows L2

section
variable {S : Sx} {Φ : Fns} {W : WX} {G F₀ F H : Hp} {σ : L2.St} {ρ : Env}
/-- J walks xs, while B stands -/
def WalkOk (S : Sx) (B F1 : Hp) (J : L2.It) (xs : List PyData) : Prop := ∀ H F, Same B H → Same F1 F → Same F H → ∀ i : Nat,
  (xs.length ≤ i → J.stop i H) ∧ ∀ x, xs[i]? = some x → J.go i H ∧ ∀ y H', J.yld i H y H' → ∃ F', Ext H F H' F' ∧ Rp S F' y x
abbrev okI (S : Sx) (fz : Bool) : Hp → Hp → Env → List PyData → L2.It → Prop := fun H' F' _ xs J => WalkOk S (if fz then F' else H') F' J xs
def TI' (S : Sx) (Φ : Fns) (W : WX) (fz : Bool) (it : It) : TI := fun σ H R => ∃ G F₀ F ρ, Rel S G F₀ σ H F ρ ∧ Got S W (okI S fz) G F₀ σ H F (evI Φ fz it ρ) R
theorem walk_list {B F1 : Hp} {a : Addr} {ys : List V} {xs : List PyData} (h : SqL S.K B a ys) (r : RpAll S F1 ys xs) : WalkOk S B F1 (Itl S.K a) xs := by
  intro H F hB hF hS i
  have q : SqL S.K H a ys := Same.seq hB h
  refine ⟨fun hi => ⟨ys, q, by rw [r.length]; exact hi⟩, fun x hx => ?_⟩
  obtain ⟨v, h1, h2⟩ := r.get hx
  refine ⟨⟨ys, v, q, h1⟩, fun y H' ⟨e, z⟩ => ?_⟩
  subst e
  have e1 := z ys q
  rw [h1] at e1
  cases e1
  exact ⟨F, .refl hS, h2.mono hF⟩
theorem walk_tup {B F1 : Hp} {a : Addr} {ys : List V} {xs : List PyData} (h : SqT S.K B a ys) (r : RpAll S F1 ys xs) : WalkOk S B F1 (Itt S.K a) xs := by
  intro H F hB hF hS i
  have q : SqT S.K H a ys := SqT.same hB h
  refine ⟨fun hi => ⟨ys, q, by rw [r.length]; exact hi⟩, fun x hx => ?_⟩
  obtain ⟨v, h1, h2⟩ := r.get hx
  refine ⟨⟨ys, v, q, h1⟩, fun y H' ⟨e, z⟩ => ?_⟩
  subst e
  have e1 := z ys q
  rw [h1] at e1
  cases e1
  exact ⟨F, .refl hS, h2.mono hF⟩
theorem walk_str {B F1 : Hp} (z : Str) : WalkOk S B F1 (Its z) (signs z) := by
  intro H F hB hF hS i
  have hl : (signs z).length = z.cps.size := by simp [signs]
  refine ⟨fun hi => by rw [hl] at hi; exact hi, fun x hx => ?_⟩
  have hlt : i < z.cps.size := by rw [← hl]; exact (List.getElem?_eq_some_iff.mp hx).1
  refine ⟨hlt, fun y H' ⟨e, c, e1, e2⟩ => ?_⟩
  subst e e2
  refine ⟨F, .refl hS, ?_⟩
  unfold signs at hx
  rw [List.getElem?_map, Array.getElem?_toList, e1] at hx
  cases hx
  exact .str _
theorem walk_rev {B F1 : Hp} {a : Addr} {ys : List V} {xs : List PyData} (h : SqL S.K B a ys) (r : RpAll S F1 ys xs) : WalkOk S B F1 (Itv S.K a ys.length) xs.reverse := by
  intro H F hB hF hS i
  have q : SqL S.K H a ys := Same.seq hB h
  have hl := r.length
  refine ⟨fun hi => by rw [List.length_reverse] at hi; show ys.length ≤ i; omega, fun x hx => ?_⟩
  have hi : i < xs.length := by simpa using (List.getElem?_eq_some_iff.mp hx).1
  rw [List.getElem?_reverse hi] at hx
  obtain ⟨v, h1, h2⟩ := r.get hx
  rw [← hl] at h1
  refine ⟨⟨by omega, ys, v, q, h1⟩, fun y H' ⟨e, z⟩ => ?_⟩
  subst e
  have e1 := z ys q
  rw [h1] at e1
  cases e1
  exact ⟨F, .refl hS, h2.mono hF⟩
theorem walk_range {B F1 : Hp} (lo hi : Int) : WalkOk S B F1 (Itr lo (hi - lo).toNat) (rangeD lo hi) := by
  intro H F hB hF hS i
  have hl : (rangeD lo hi).length = (hi - lo).toNat := by simp [rangeD]
  refine ⟨fun h => by rw [hl] at h; exact h, fun x hx => ?_⟩
  have hlt : i < (hi - lo).toNat := by rw [← hl]; exact (List.getElem?_eq_some_iff.mp hx).1
  refine ⟨hlt, fun y H' ⟨e, e1⟩ => ?_⟩
  subst e e1
  refine ⟨F, .refl hS, ?_⟩
  unfold rangeD at hx
  rw [List.getElem?_map, List.getElem?_range hlt] at hx
  cases hx
  exact .int _
theorem walk_enum {B F1 : Hp} {a : Addr} {ys : List V} {xs : List PyData} (h : SqL S.K B a ys) (r : RpAll S F1 ys xs) : WalkOk S B F1 (Ite S.K a) (enumD xs) := by
  intro H F hB hF hS i
  have q : SqL S.K H a ys := Same.seq hB h
  have hl := r.length
  refine ⟨fun hi => ⟨ys, q, by simp [enumD] at hi; omega⟩, fun x hx => ?_⟩
  unfold enumD at hx
  rw [List.getElem?_map, List.getElem?_zipIdx] at hx
  cases hz : xs[i]? with
  | none => rw [hz] at hx; cases hx
  | some d =>
    rw [hz] at hx
    cases hx
    obtain ⟨v, h1, h2⟩ := r.get hz
    refine ⟨⟨ys, v, q, h1⟩, fun y H' ⟨t, v', e, fr, e2, z⟩ => ?_⟩
    subst e e2
    have e1 := z ys q
    rw [h1] at e1
    cases e1
    refine ⟨_, .new hS _ fr, .tup (.inl (.inl upd_same)) (.cons ?_ (.cons ((h2.mono hF).mono (same_upd (hS.free fr))) .nil))⟩
    simp
    exact .int _
theorem walk_zip {B F1 : Hp} {a b : Addr} {ys zs : List V} {xs ws : List PyData} (h : SqL S.K B a ys) (r : RpAll S F1 ys xs) (h2 : SqL S.K B b zs) (r2 : RpAll S F1 zs ws) : WalkOk S B F1 (Itz S.K a b) (zipD xs ws) := by
  intro H F hB hF hS i
  have q : SqL S.K H a ys := Same.seq hB h
  have q2 : SqL S.K H b zs := Same.seq hB h2
  have hl := r.length
  have hl2 := r2.length
  refine ⟨fun hi => ⟨ys, zs, q, q2, by simp [zipD] at hi; omega⟩, fun x hx => ?_⟩
  unfold zipD at hx
  rw [List.getElem?_map] at hx
  cases hz : (xs.zip ws)[i]? with
  | none => rw [hz] at hx; cases hx
  | some d =>
    rw [hz] at hx
    cases hx
    obtain ⟨e1, e2⟩ := List.getElem?_zip_eq_some.mp hz
    obtain ⟨v, k1, k2⟩ := r.get e1
    obtain ⟨u, k3, k4⟩ := r2.get e2
    refine ⟨⟨ys, zs, v, u, q, q2, k1, k3⟩, fun y H' ⟨t, v', u', e, fr, e3, z, z2⟩ => ?_⟩
    subst e e3
    have e4 := z ys q
    rw [k1] at e4
    cases e4
    have e5 := z2 zs q2
    rw [k3] at e5
    cases e5
    exact ⟨_, .new hS _ fr, .tup (.inl (.inl upd_same)) (.cons ((k2.mono hF).mono (same_upd (hS.free fr))) (.cons ((k4.mono hF).mono (same_upd (hS.free fr))) .nil))⟩

section
variable {X : Cx} {tg e : Expr} {te : TE}
/-- a list, a tuple or a text walked -/
def iSeq (K : PySem.W.Frag) (te : TE) : TI := fun σ H R => te σ H fun x H1 => (∃ a xs, x = .ref a ∧ SqL K H1 a xs ∧ R (Itl K a) H1) ∨ (∃ a xs, x = .ref a ∧ SqT K H1 a xs ∧ R (Itt K a) H1) ∨ ∃ z, x = .str z ∧ R (Its z) H1
theorem pi_seq (hl : PE X e te) : PI X tg e (iSeq X.K te) := by
  refine ⟨fun pins s σ H R I h => ?_⟩
  refine thn (hl.run pins s σ H _ I h) fun v s1 ⟨x, H1, I1, r1, q1⟩ => ?_
  rcases q1 with ⟨a, xs, rfl, hq, q⟩ | ⟨a, xs, rfl, hq, q⟩ | ⟨z, rfl, q⟩
  · cases r1
    obtain ⟨its, rv, p, hz⟩ := I1.list hq
    refine wpAny_pyIter_list p.isList ?_
    refine ⟨s1.heap.objs.size, [s1.heap.objs.size], _, _, H1, rfl, I1.kept (t' := s1.toks) fun b o e => Heap.get?_push_of_some _ e, turn_list a _, ⟨_, Heap.get?_push_size _ rfl, rfl, rfl⟩, fun b hb => ?_, q⟩
    have e : b = s1.heap.objs.size := by simpa using hb
    subst e
    exact I1.fpOk (Nat.le_refl _) (I1.hok.fresh (Nat.le_refl _))
  · cases r1
    obtain ⟨its, rv, p, hz⟩ := I1.tuple hq
    refine wpAny_pyIter_tuple (show s1.heap.IsTuple a its.toArray from p) ?_
    refine ⟨s1.heap.objs.size, [s1.heap.objs.size], _, _, H1, rfl, I1.kept (t' := s1.toks) fun b o e => Heap.get?_push_of_some _ e, turn_tuple a _, ⟨_, Heap.get?_push_size _ rfl, rfl, rfl⟩, fun b hb => ?_, q⟩
    have e : b = s1.heap.objs.size := by simpa using hb
    subst e
    exact I1.fpOk (Nat.le_refl _) (I1.hok.fresh (Nat.le_refl _))
  · obtain ⟨t, rfl⟩ := r1
    cases ha : z.cps.all (· < 128)
    · exact wpAny_pyIter_wide ha (pi_one (tk := s1.toks) I1 _ (turn_str _ z t "str_iterator" (.inr rfl)) ⟨_, Heap.get?_push_size _ rfl, rfl, rfl⟩ q)
    · exact wpAny_pyIter_ascii ha (pi_one (tk := s1.toks) I1 _ (turn_str _ z t "str_ascii_iterator" (.inl rfl)) ⟨_, Heap.get?_push_size _ rfl, rfl, rfl⟩ q)
end

/-- what is looked at -/
theorem Got.look {γ δ : Type} {fz : Bool} {v : EV} {x : V} {ok2 : Hp → Hp → Env → γ → δ → Prop} {f : PyData → Env → Out γ} {Q : δ → Hp → Prop} (h : Got S W ok2 G F₀ σ H F ((VI.look fz v ρ).bind f) Q) (R : Rel S G F₀ σ H F ρ) (k : ValOk S σ F v x) :
    ∃ d ρ' F', Same F F' ∧ (if fz then Rp S F' x d else Pk S F' H x d) ∧ Rel S G F₀ σ H F' ρ' ∧ Got S W ok2 G F₀ σ H F' (f d ρ') Q := by
  unfold VI.look at h
  cases fz with
  | true => exact h.freeze R k
  | false =>
    simp only [Bool.false_eq_true, if_false] at h ⊢
    cases e : VI.view ρ v with
    | none => rw [e] at h; exact h.elim
    | some d =>
      rw [e] at h
      exact ⟨d, ρ, F, Same.refl _, R.view k e, R, h⟩
theorem look_lst {fz : Bool} {x : V} {ds : List PyData} (R : Rel S G F₀ σ H F ρ) (h : if fz = true then Rp S F x (.list ds) else Pk S F H x (.list ds)) : ∃ a ys, x = .ref a ∧ SqL S.K (if fz = true then F else H) a ys ∧ RpAll S F ys ds := by
  cases fz with
  | true => exact Rp.lstE h
  | false => exact Pk.lstE R.fle h
theorem look_tup {fz : Bool} {x : V} {ds : List PyData} (R : Rel S G F₀ σ H F ρ) (h : if fz = true then Rp S F x (.tuple ds) else Pk S F H x (.tuple ds)) : ∃ a ys, x = .ref a ∧ SqT S.K (if fz = true then F else H) a ys ∧ RpAll S F ys ds := by
  cases fz with
  | true => exact Rp.tupE h
  | false =>
    obtain ⟨a, ys, e, h1, h2⟩ := Pk.tupE R.fle h
    exact ⟨a, ys, e, SqT.same R.fle h1, h2⟩
theorem look_str {fz : Bool} {x : V} {z : Str} (h : if fz = true then Rp S F x (.str z) else Pk S F H x (.str z)) : x = .str z := by
  cases fz with
  | true => exact Rp.strE h
  | false => exact Pk.strE h
theorem rd_h {fz : Bool} (R : Rel S G F₀ σ H F ρ) {a : Addr} {o : List V} (h : SqL S.K (if fz = true then F else H) a o) : SqL S.K H a o := by
  cases fz with
  | true => exact Same.seq R.fle h
  | false => exact h
theorem sqt_h {fz : Bool} (R : Rel S G F₀ σ H F ρ) {a : Addr} {o : List V} (h : SqT S.K (if fz = true then F else H) a o) : SqT S.K H a o := by
  cases fz with
  | true => exact SqT.same R.fle h
  | false => exact h
theorem I_seq {fz : Bool} {a : CE} {R' : L2.It → Hp → Prop} (h : TI' S Φ W fz (.seq a) σ H R') : iSeq S.K (T S Φ W a) σ H R' := by
  obtain ⟨G, F₀, F, ρ, R, h⟩ := h
  refine T_one R h fun vx x ρ2 H2 F2 R2 k h2 => ?_
  obtain ⟨d, ρ3, F3, ff, hd, R3, h3⟩ := h2.look R2 k
  obtain ⟨xs, e, h4⟩ := h3.ofO
  unfold seqD at e
  split at e <;> cases e
  · obtain ⟨p, ys, rfl, h5, h6⟩ := look_lst R3 hd
    exact .inl ⟨p, ys, rfl, rd_h R3 h5, h4.ret R3 (walk_list h5 h6)⟩
  · obtain ⟨p, ys, rfl, h5, h6⟩ := look_tup R3 hd
    exact .inr (.inl ⟨p, ys, rfl, sqt_h R3 h5, h4.ret R3 (walk_tup h5 h6)⟩)
  · have := look_str hd
    subst this
    exact .inr (.inr ⟨_, rfl, h4.ret R3 (walk_str _)⟩)
theorem I_rev {fz : Bool} {a : CE} {R' : L2.It → Hp → Prop} (h : TI' S Φ W fz (.rev a) σ H R') : RT.iRevA S.K (T S Φ W a) σ H R' := by
  obtain ⟨G, F₀, F, ρ, R, h⟩ := h
  refine T_one R h fun vx x ρ2 H2 F2 R2 k h2 => ?_
  obtain ⟨d, ρ3, F3, ff, hd, R3, h3⟩ := h2.look R2 k
  obtain ⟨xs, e, h4⟩ := h3.ofO
  obtain ⟨ys, e1, rfl⟩ := Option.map_eq_some_iff.mp e
  unfold listD at e1
  split at e1 <;> cases e1
  obtain ⟨p, ys, rfl, h5, h6⟩ := look_lst R3 hd
  exact ⟨p, ys, rfl, .inl ⟨rd_h R3 h5, h4.ret R3 (walk_rev h5 h6)⟩⟩
theorem intP_some {d : PyData} {i : Int} (h : intP d = some i) : d = .int i := by
  unfold intP at h
  split at h <;> cases h
  rfl
theorem view_int (R : Rel S G F₀ σ H F ρ) {v : EV} {x : V} {i : Int} (k : ValOk S σ F v x) (h : (VI.view ρ v).bind intP = some i) : x = .int i := by
  obtain ⟨d, e, h⟩ := Option.bind_eq_some_iff.mp h
  have := intP_some h
  subst this
  exact (R.view k e).intE
theorem range62_ok {i : Int} (h : range62 i = true) : -(2 ^ 62) ≤ i ∧ i < 2 ^ 62 := by
  cases i with
  | ofNat n =>
    have := Nat.le_of_ble_eq_true (show Nat.ble n 4611686018427387903 = true from h)
    have e : Int.ofNat n = (n : Int) := rfl
    rw [e]
    exact ⟨by omega, by omega⟩
  | negSucc n =>
    have := Nat.le_of_ble_eq_true (show Nat.ble n 4611686018427387903 = true from h)
    exact ⟨by omega, by omega⟩
theorem I_range1 {fz : Bool} {a : CE} {R' : L2.It → Hp → Prop} (h : TI' S Φ W fz (.range1 a) σ H R') : iRng1 (tCons (T S Φ W a) tNil) σ H R' := by
  obtain ⟨G, F₀, F, ρ, R, h⟩ := h
  refine T_one R h fun vx x ρ2 H2 F2 R2 k h2 => ?_
  cases e : (VI.view ρ2 vx).bind intP with
  | none => rw [e] at h2; exact h2.elim
  | some i =>
    rw [e] at h2
    have h2 : Got S W (okI S fz) G F₀ σ H2 F2 (if range62 i then .ok (rangeD 0 i) ρ2 else .stuck) R' := h2
    split at h2
    · rename_i hr
      have := view_int R2 k e
      subst this
      obtain ⟨r1, r2⟩ := range62_ok hr
      refine ⟨i, rfl, r1, r2, h2.ret R2 ?_⟩
      have := walk_range (S := S) (B := if fz = true then F2 else H2) (F1 := F2) 0 i
      simpa using this
    · exact h2.elim
theorem I_range2 {fz : Bool} {a b : CE} {R' : L2.It → Hp → Prop} (h : TI' S Φ W fz (.range2 a b) σ H R') : iRng2 (tCons (T S Φ W a) (tCons (T S Φ W b) tNil)) σ H R' := by
  obtain ⟨G, F₀, F, ρ, R, h⟩ := h
  refine T_seq2 R h fun vx vy x y ρ2 H2 F2 R2 k1 k2 h2 => ?_
  cases e : (VI.view ρ2 vx).bind intP with
  | none => rw [e] at h2; exact h2.elim
  | some i =>
    rw [e] at h2
    have h2 : Got S W (okI S fz) G F₀ σ H2 F2 ((ofO ((VI.view ρ2 vy).bind intP) ρ2).bind fun j ρ => if (range62 i && range62 j) = true then .ok (rangeD i j) ρ else .stuck) R' := h2
    cases e' : (VI.view ρ2 vy).bind intP with
    | none => rw [e'] at h2; exact h2.elim
    | some j =>
      rw [e'] at h2
      have h2 : Got S W (okI S fz) G F₀ σ H2 F2 (if (range62 i && range62 j) = true then .ok (rangeD i j) ρ2 else .stuck) R' := h2
      split at h2
      · rename_i hr
        rw [Bool.and_eq_true] at hr
        have := view_int R2 k1 e
        subst this
        have := view_int R2 k2 e'
        subst this
        obtain ⟨r1, r2⟩ := range62_ok hr.1
        obtain ⟨r3, r4⟩ := range62_ok hr.2
        exact ⟨i, j, rfl, ⟨r1, r2, r3, r4⟩, h2.ret R2 (walk_range i j)⟩
      · exact h2.elim
theorem I_enum {fz : Bool} {a : CE} {R' : L2.It → Hp → Prop} (h : TI' S Φ W fz (.enum a) σ H R') : iEnum S.K (tCons (T S Φ W a) tNil) σ H R' := by
  obtain ⟨G, F₀, F, ρ, R, h⟩ := h
  refine T_one R h fun vx x ρ2 H2 F2 R2 k h2 => ?_
  obtain ⟨d, ρ3, F3, ff, hd, R3, h3⟩ := h2.look R2 k
  obtain ⟨xs, e, h4⟩ := h3.ofO
  obtain ⟨ys, e1, rfl⟩ := Option.map_eq_some_iff.mp e
  unfold listD at e1
  split at e1 <;> cases e1
  obtain ⟨p, ys, rfl, h5, h6⟩ := look_lst R3 hd
  exact ⟨p, ys, rfl, rd_h R3 h5, h4.ret R3 (walk_enum h5 h6)⟩
theorem I_zip {fz : Bool} {a b : CE} {R' : L2.It → Hp → Prop} (h : TI' S Φ W fz (.zip a b) σ H R') : RZ.iZipA S.K (tCons (T S Φ W a) (tCons (T S Φ W b) tNil)) σ H R' := by
  obtain ⟨G, F₀, F, ρ, R, h⟩ := h
  refine T_seq2 R h fun vx vy x y ρ2 H2 F2 R2 k1 k2 h2 => ?_
  obtain ⟨d, ρ3, F3, ff, hd, R3, h3⟩ := h2.look R2 k1
  obtain ⟨d', ρ4, F4, ff', hd', R4, h4⟩ := h3.look R3 (k2.mono ff)
  obtain ⟨xs, e, h5⟩ := h4.ofO
  obtain ⟨ys, e1, e⟩ := Option.bind_eq_some_iff.mp e
  obtain ⟨zs, e2, rfl⟩ := Option.map_eq_some_iff.mp e
  unfold listD at e1 e2
  split at e1 <;> cases e1
  split at e2 <;> cases e2
  obtain ⟨p, us, rfl, g1, g2⟩ := look_lst R3 hd
  obtain ⟨q, ws, rfl, g3, g4⟩ := look_lst R4 hd'
  have g1' : SqL S.K (if fz = true then F4 else H2) p us := by
    cases fz with
    | true => exact Same.seq ff' g1
    | false => exact g1
  exact ⟨p, q, us, ws, rfl, .inl ⟨rd_h R4 g1', rd_h R4 g3, h5.ret R4 (walk_zip g1' (g2.mono ff') g3 g4)⟩⟩

/-! ### comprehensions -/
abbrev W0 : WX := fun _ _ _ _ => False
abbrev okO (S : Sx) (G : Hp) (σ : L2.St) : Hp → Hp → Env → SV → V → Prop := fun H' F' ρ' s x => ∃ p, x = .ref p ∧ SlotOk S G H' F' (some (some (.ref p))) s ∧ ownS s = true ∧ ∀ (j : Nat) t, ρ'[j]? = some t → ownS t = true → σ[j]? ≠ some (some (.ref p))
def TO' (S : Sx) (Φ : Fns) (W : WX) (c : CO) : TE := fun σ H Q => ∃ G F₀ F ρ, Rel S G F₀ σ H F ρ ∧ Got S W (okO S G σ) G F₀ σ H F (evO Φ c ρ) Q
/-- a comprehension's walk, behind its iterator -/
def LcBody (J : L2.It) (H1 : Hp) (g : TG) (tt : TT) (te : TE) (vs : List Nat) (σ : L2.St) (Q : V → Hp → Prop) : Prop := ∀ D, H1 D = none → ∃ W : Nat → Nat → Hp → Prop, (∃ m, W 0 m (upd H1 D (.lst []))) ∧ ∀ i m H, W i m H →
  (J.stop i H ∧ Q (.ref D) H) ∨ (J.go i H ∧ ∃ Nx : Hp → Prop, (∀ H', Nx H' → ∃ m', m' < m ∧ W (i + 1) m' H') ∧ ∀ x H', J.yld i H x H' → g x (L2.wipe σ vs) H' fun σ2 H2 => L2.wipe σ2 vs = L2.wipe σ vs ∧ tt σ2 H2 fun b H3 =>
    if b = true then te σ2 H3 fun y H4 => ∃ acc, H4 D = some (.lst acc) ∧ acc.length < sizeLine ∧ Nx (upd H4 D (.lst (acc ++ [y]))) else Nx H3)
theorem comp_core {elt cond : CE} {tg : Tg} {vs : List Nat} {tt : TT} {Q : V → Hp → Prop} {J : L2.It} {H1 F1 : Hp} {xs : List PyData} {ρ1 : Env} (hv : slotsIn vs tg = true) (ht : ∀ σ H Q, TB S Φ W0 cond σ H Q → tt σ H Q) (R1 : Rel S G F₀ σ H1 F1 ρ1) (wk : WalkOk S H1 F1 J xs)
    (h1 : Got S W (okO S G σ) G F₀ σ H1 F1 (if okWipe ρ1 vs then (compL (fun ρ => ev Φ elt ρ) (fun ρ => ev Φ cond ρ) tg ρ1 vs xs [] ρ1).bind fun ys ρ' => .ok (.lst ys) (backE ρ1 ρ' vs) else .stuck) Q) : LcBody J H1 (gOf S.K tg) tt (T S Φ W0 elt) vs σ Q := by
  intro D hD
  split at h1
  rotate_left
  · exact h1.elim
  rename_i ow
  have fD : F1 D = none := R1.fle.free hD
  have gD : G D = none := R1.gle.free hD
  have f0D : F₀ D = none := R1.old.free fD
  have wk : WalkOk S H1 F1 J xs := wk
  -- what is left at turn i
  refine ⟨fun i m H => m = xs.length - i ∧ i ≤ xs.length ∧ ∃ acc ys ρ2 F2, Same H1 H ∧ Same F1 F2 ∧ H D = some (.lst ys) ∧ RpAll S F2 ys acc ∧ Rel S (upd G D (.lst ys)) F₀ (L2.wipe σ vs) H F2 (wipeE ρ2 vs) ∧
    Got S W (okO S G σ) G F₀ σ H1 F1 ((compL (fun ρ => ev Φ elt ρ) (fun ρ => ev Φ cond ρ) tg ρ1 vs (xs.drop i) acc ρ2).bind fun ys ρ' => .ok (.lst ys) (backE ρ1 ρ' vs)) Q, ⟨_, rfl, Nat.zero_le _, [], [], ρ1, F1, same_upd hD, Same.refl _, upd_same, .nil, (R1.wipe vs).addG _ hD, h1⟩, ?_⟩
  rintro i m H2 ⟨rfl, hi, acc, ys, ρ2, F2, hh, ff, hHD, ry, R2, g⟩
  obtain ⟨ws, wg⟩ := wk H2 F2 hh ff R2.fle i
  obtain ⟨fD2, nD2⟩ := R2.noD f0D
  by_cases hlt : i < xs.length
  · right
    have hx : xs[i]? = some xs[i] := List.getElem?_eq_getElem hlt
    obtain ⟨go, wy⟩ := wg _ hx
    refine ⟨go, fun H' => i + 1 ≤ xs.length ∧ ∃ acc ys ρ2 F2, Same H1 H' ∧ Same F1 F2 ∧ H' D = some (.lst ys) ∧ RpAll S F2 ys acc ∧ Rel S (upd G D (.lst ys)) F₀ (L2.wipe σ vs) H' F2 (wipeE ρ2 vs) ∧
      Got S W (okO S G σ) G F₀ σ H1 F1 ((compL (fun ρ => ev Φ elt ρ) (fun ρ => ev Φ cond ρ) tg ρ1 vs (xs.drop (i + 1)) acc ρ2).bind fun ys ρ' => .ok (.lst ys) (backE ρ1 ρ' vs)) Q, fun H' n => ⟨_, by omega, rfl, n⟩, fun y H3 hy => ?_⟩
    obtain ⟨F3, E3, r3⟩ := wy y H3 hy
    have R3 := R2.ext E3
    rw [List.drop_eq_getElem_cons hlt] at g
    unfold compL at g
    split at g
    · exact g.elim
    rename_i ρ3 ha
    refine g_set R3 r3 ha fun σ2 R4 hw => ⟨by rw [hw vs hv, wipe_wipe], ht _ _ _ ?_⟩
    split at g
    rotate_left
    · exact g.elim
    rename_i c ρ4 hc
    split at g
    · -- kept
      rename_i ρ5 htr
      refine ⟨upd G D (.lst ys), F₀, F3, ρ3, R4, ?_⟩
      rw [hc]
      show Got S W0 _ _ _ _ _ _ (truE c ρ4) _
      rw [htr]
      intro b H5 F5 hh5 ff5 R5 eb
      have eb : true = b := eb
      subst eb
      simp only [if_true]
      split at g
      rotate_left
      · exact g.elim
      rename_i v ρ6 hv6
      refine ⟨upd G D (.lst ys), F₀, F5, ρ5, R5, ?_⟩
      rw [hv6]
      intro z H6 F6 hh6 ff6 R6 k6
      split at g
      rotate_left
      · exact g.elim
      rename_i d ρ7 hf7
      split at g
      rotate_left
      · exact g.elim
      rename_i hsm
      obtain ⟨F7, ff7, r7, R7⟩ := R6.freeze k6 hf7
      have hD6 : H6 D = some (.lst ys) := R6.gle D _ upd_same
      have hl := ry.length
      refine ⟨ys, hD6, by rw [hl]; exact most_line' hsm, ?_⟩
      have R8 := R7.reD f0D (.lst (ys ++ [z]))
      have hs8 : Same H1 (upd H6 D (.lst (ys ++ [z]))) := fun b o q => by
        have hb : b ≠ D := ne_of_none q hD
        rw [upd_ne hb]
        exact hh6 _ _ (hh5 _ _ (E3.hh _ _ (hh _ _ q)))
      refine ⟨hlt, acc ++ [d], ys ++ [z], ρ7, F7, hs8, (ff.trans E3.ff).trans (ff5.trans (ff6.trans ff7)), upd_same, ?_, ?_, g⟩
      · exact (ry.mono (E3.ff.trans (ff5.trans (ff6.trans ff7)))).append (.one r7)
      · have := R8.wipe vs
        rwa [hw vs hv, wipe_wipe] at this
    · rename_i ρ5 htr
      refine ⟨upd G D (.lst ys), F₀, F3, ρ3, R4, ?_⟩
      rw [hc]
      show Got S W0 _ _ _ _ _ _ (truE c ρ4) _
      rw [htr]
      intro b H5 F5 hh5 ff5 R5 eb
      have eb : false = b := eb
      subst eb
      simp only [Bool.false_eq_true, if_false]
      have hD5 : H5 D = some (.lst ys) := R5.gle D _ upd_same
      exact ⟨hlt, acc, ys, ρ5, F5, (hh.trans E3.hh).trans hh5, (ff.trans E3.ff).trans ff5, hD5, ry.mono (E3.ff.trans ff5), by have := R5.wipe vs; rwa [hw vs hv, wipe_wipe] at this, g⟩
    · exact g.elim
  · left
    have e : i = xs.length := by omega
    refine ⟨ws (by omega), ?_⟩
    rw [e, List.drop_length] at g
    have g : Got S W (okO S G σ) G F₀ σ H1 F1 (.ok (.lst acc) (backE ρ1 ρ2 vs)) Q := g
    have R3 := R1.back ow ff (R2.dropG gD)
    refine g (.ref D) H2 F2 hh ff R3 ⟨D, rfl, ⟨D, ys, rfl, hHD, ry, fD2, gD⟩, rfl, fun j t hj ot hs => ?_⟩
    obtain ⟨e1, e2⟩ := back_own (σ := σ) ow hj ot
    exact nD2 j t e1 ot (by rw [e2]; exact hs)
theorem T_comp {elt cond : CE} {tg : Tg} {it : It} {vs : List Nat} {tt : TT} {Q : V → Hp → Prop} (hv : slotsIn vs tg = true) (ht : ∀ σ H Q, TB S Φ W0 cond σ H Q → tt σ H Q) (h : TO' S Φ W (.comp elt tg it cond vs) σ H Q) :
    tLc (TI' S Φ W false it) (gOf S.K tg) tt (T S Φ W0 elt) vs σ H Q := by
  obtain ⟨G, F₀, F, ρ, R, h⟩ := h
  exact ⟨G, F₀, F, ρ, R, (Got.bind (okI S false) h).imp fun J H1 ⟨F1, xs, ρ1, hh1, ff1, R1, wk, _, h1⟩ => comp_core hv ht R1 wk h1⟩
end
end VI
set_option Elab.async false
set_option linter.all false
set_option autoImplicit false
set_option maxRecDepth 20000
/-! Expressions: what is checked is what it says. -/
namespace VI
open PySem PySem.Spec PyProof.Rows L2

section
variable {S : Sx} {Φ : Fns} {W : WX} {α β : Type} {G F₀ F H : Hp} {σ : L2.St} {ρ : Env}
/-- a comparison, whatever comes behind -/
theorem T_cmpG {a b : CE} {Q : V → Hp → Prop} {f : PyData → PyData → Option Bool} {okQ : Hp → Hp → Env → α → β → Prop} {Qf : β → Hp → Prop} {g : EV → Env → Out α} (R : Rel S G F₀ σ H F ρ)
    (h : Got S W okQ G F₀ σ H F (((ev Φ a ρ).bind fun x ρ => (ev Φ b ρ).bind fun y ρ => ofO ((both f (view ρ x) (view ρ y)).map fun t => .d (.bool t)) ρ).bind g) Qf)
    (q : ∀ t ρ2 H2 F2, Rel S G F₀ σ H2 F2 ρ2 → Got S W okQ G F₀ σ H2 F2 (g (.d (.bool t)) ρ2) Qf → Q (.bl t) H2) : tOp (rTe S f) (T S Φ W a) (T S Φ W b) σ H Q := by
  simp only [bind_assoc'] at h
  refine T_seq2 R h fun vx vy x y ρ2 H2 F2 R2 k1 k2 h2 => ?_
  cases e : (both f (view ρ2 vx) (view ρ2 vy)) with
  | none => rw [e] at h2; exact h2.elim
  | some t =>
    rw [e] at h2
    obtain ⟨dx, dy, e1, e2, e3⟩ := both_some e
    exact ⟨F2, dx, dy, t, R2.fle, R2.view k1 e1, R2.view k2 e2, e3, q t ρ2 H2 F2 R2 h2⟩
theorem truE_bool {t : Bool} : truE (.d (.bool t)) ρ = .ok t ρ := rfl
theorem T_chainG {a b c : CE} {Q : V → Hp → Prop} {f f' : PyData → PyData → Option Bool} {okQ : Hp → Hp → Env → α → β → Prop} {Qf : β → Hp → Prop} {g : EV → Env → Out α} (R : Rel S G F₀ σ H F ρ)
    (h : Got S W okQ G F₀ σ H F (((ev Φ a ρ).bind fun x ρ => (ev Φ b ρ).bind fun y ρ => (ofO (both f (view ρ x) (view ρ y)) ρ).bind fun t ρ =>
      if t then (ev Φ c ρ).bind fun z ρ => ofO ((both f' (view ρ y) (view ρ z)).map fun t => .d (.bool t)) ρ else .ok (.d (.bool false)) ρ).bind g) Qf)
    (q : ∀ t ρ2 H2 F2, Rel S G F₀ σ H2 F2 ρ2 → Got S W okQ G F₀ σ H2 F2 (g (.d (.bool t)) ρ2) Qf → Q (.bl t) H2) : tChain (rTe S f) (rTe S f') (T S Φ W a) (T S Φ W b) (T S Φ W c) σ H Q := by
  simp only [bind_assoc'] at h
  refine T_seq2 R h fun vx vy x y ρ2 H2 F2 R2 k1 k2 h2 => ?_
  cases e : (both f (view ρ2 vx) (view ρ2 vy)) with
  | none => rw [e] at h2; exact h2.elim
  | some t =>
    rw [e] at h2
    obtain ⟨dx, dy, e1, e2, e3⟩ := both_some e
    refine ⟨F2, dx, dy, t, R2.fle, R2.view k1 e1, R2.view k2 e2, e3, t, rfl, ?_⟩
    cases t with
    | false =>
      rw [if_neg Bool.false_ne_true]
      exact q false ρ2 H2 F2 R2 h2
    | true =>
      rw [if_pos rfl]
      have h2 : Got S W okQ G F₀ σ H2 F2 (((ev Φ c ρ2).bind fun z ρ => ofO ((both f' (view ρ vy) (view ρ z)).map fun t => .d (.bool t)) ρ).bind g) Qf := h2
      rw [bind_assoc'] at h2
      refine ⟨G, F₀, F2, ρ2, R2, (Got.bind (okV S σ) h2).imp fun z H3 ⟨F3, vz, ρ3, hh3, ff3, R3, k3, _, h3⟩ => ?_⟩
      cases e' : (both f' (view ρ3 vy) (view ρ3 vz)) with
      | none => rw [e'] at h3; exact h3.elim
      | some t =>
        rw [e'] at h3
        obtain ⟨dy', dz, g1, g2, g3⟩ := both_some e'
        exact ⟨F3, dy', dz, t, R3.fle, R3.view (k2.mono ff3) g1, R3.view k3 g2, g3, q t ρ3 H3 F3 R3 h3⟩
theorem assoc_tru {γ : Type} (m : Out EV) (f : Bool → Env → Out γ) : (m.bind fun x ρ => (truE x ρ).bind f) = (m.bind truE).bind f := (bind_assoc' m truE f).symm
/-- a test first, then what follows -/
theorem TB_then {c : CE} {Q : Bool → Hp → Prop} {okQ : Hp → Hp → Env → α → β → Prop} {Qf : β → Hp → Prop} {f : Bool → Env → Out α} (R : Rel S G F₀ σ H F ρ)
    (h : Got S W okQ G F₀ σ H F ((ev Φ c ρ).bind fun x ρ => (truE x ρ).bind f) Qf) (q : ∀ t ρ2 H2 F2, Rel S G F₀ σ H2 F2 ρ2 → Got S W okQ G F₀ σ H2 F2 (f t ρ2) Qf → Q t H2) : TB S Φ W c σ H Q := by
  rw [assoc_tru] at h
  exact ⟨G, F₀, F, ρ, R, (Got.bind (fun _ _ _ (a b : Bool) => a = b) h).imp fun t H1 ⟨F1, t', ρ1, hh1, ff1, R1, k1, _, h1⟩ => by
    have k1 : t' = t := k1
    subst k1
    exact q t' ρ1 H1 F1 R1 h1⟩
theorem truE_cases {v : EV} {t : Bool} {ρ' : Env} (h : truE v ρ = .ok t ρ') : ρ' = ρ ∧ truE v ρ = .ok t ρ := by
  unfold truE at h ⊢
  cases e : (VI.view ρ v).bind truD with
  | none => rw [e] at h; cases h
  | some k => rw [e] at h; cases h; exact ⟨rfl, rfl⟩
/-- and, or as tests -/
theorem TB_and {a b : CE} {Q : Bool → Hp → Prop} (h : TB S Φ W (.and a b) σ H Q) : tAnd (TB S Φ W a) (TB S Φ W b) σ H Q := by
  obtain ⟨G, F₀, F, ρ, R, h⟩ := h
  refine ⟨G, F₀, F, ρ, R, ?_⟩
  have h : Got S W (fun _ _ _ (a b : Bool) => a = b) G F₀ σ H F (((ev Φ a ρ).bind fun x ρ => (truE x ρ).bind fun t ρ => if t then ev Φ b ρ else .ok x ρ).bind truE) Q := h
  cases e : ev Φ a ρ with
  | stuck => rw [e] at h; exact h.elim
  | exc x ρ1 => rw [e] at h; exact h
  | ok v ρ1 =>
    rw [e] at h
    show Got S W _ G F₀ σ H F (truE v ρ1) _
    have h : Got S W (fun _ _ _ (a b : Bool) => a = b) G F₀ σ H F (((truE v ρ1).bind fun t ρ => if t then ev Φ b ρ else .ok v ρ).bind truE) Q := h
    cases e2 : truE v ρ1 with
    | stuck => rw [e2] at h; exact h.elim
    | exc x ρ2 => unfold truE at e2; cases z : (VI.view ρ1 v).bind truD <;> (rw [z] at e2; cases e2)
    | ok t ρ2 =>
      obtain ⟨rfl, e3⟩ := truE_cases e2
      rw [e2] at h
      intro b' H' F' hh ff R' k
      have k : t = b' := k
      subst k
      cases t with
      | true => exact ⟨G, F₀, F', _, R', Got.shift h hh ff⟩
      | false =>
        have h : Got S W (fun _ _ _ (a b : Bool) => a = b) G F₀ σ H F (truE v ρ2) Q := h
        rw [e2] at h
        exact h false H' F' hh ff R' rfl
theorem TB_or {a b : CE} {Q : Bool → Hp → Prop} (h : TB S Φ W (.or a b) σ H Q) : tOr (TB S Φ W a) (TB S Φ W b) σ H Q := by
  obtain ⟨G, F₀, F, ρ, R, h⟩ := h
  refine ⟨G, F₀, F, ρ, R, ?_⟩
  have h : Got S W (fun _ _ _ (a b : Bool) => a = b) G F₀ σ H F (((ev Φ a ρ).bind fun x ρ => (truE x ρ).bind fun t ρ => if t then .ok x ρ else ev Φ b ρ).bind truE) Q := h
  cases e : ev Φ a ρ with
  | stuck => rw [e] at h; exact h.elim
  | exc x ρ1 => rw [e] at h; exact h
  | ok v ρ1 =>
    rw [e] at h
    show Got S W _ G F₀ σ H F (truE v ρ1) _
    have h : Got S W (fun _ _ _ (a b : Bool) => a = b) G F₀ σ H F (((truE v ρ1).bind fun t ρ => if t then .ok v ρ else ev Φ b ρ).bind truE) Q := h
    cases e2 : truE v ρ1 with
    | stuck => rw [e2] at h; exact h.elim
    | exc x ρ2 => unfold truE at e2; cases z : (VI.view ρ1 v).bind truD <;> (rw [z] at e2; cases e2)
    | ok t ρ2 =>
      obtain ⟨rfl, e3⟩ := truE_cases e2
      rw [e2] at h
      intro b' H' F' hh ff R' k
      have k : t = b' := k
      subst k
      cases t with
      | false => exact ⟨G, F₀, F', _, R', Got.shift h hh ff⟩
      | true =>
        have h : Got S W (fun _ _ _ (a b : Bool) => a = b) G F₀ σ H F (truE v ρ2) Q := h
        rw [e2] at h
        exact h true H' F' hh ff R' rfl
/-- a new cell closed -/
theorem Rel.shut (R : Rel S G F₀ σ H F ρ) {p : Addr} {o : HO} (hp : H p = some o) (fp : F p = none) (gp : G p = none) (np : ∀ (j : Nat) t, ρ[j]? = some t → ownS t = true → σ[j]? ≠ some (some (.ref p))) : Rel S G F₀ σ H (upd F p o) ρ := by
  have ff : Same F (upd F p o) := same_upd fp
  refine ⟨R.gle, fun b u q => ?_, fun b g f => ?_, R.old.trans ff, R.len, fun j t ht => ?_, R.apart⟩
  · by_cases hb : b = p
    · subst hb; rw [upd_same] at q; cases q; exact hp
    · rw [upd_ne hb] at q; exact R.fle _ _ q
  · by_cases hb : b = p
    · subst hb; exact absurd gp g
    · rw [upd_ne hb] at f; exact R.new b g f
  · have z := R.slot j t ht
    cases t with
    | unb => exact z
    | d y => obtain ⟨u, e2, h2⟩ := z; exact ⟨u, e2, h2.mono ff⟩
    | lst es =>
      obtain ⟨q, ys, e2, k1, k2, k3, k4⟩ := z
      have hq : q ≠ p := fun e => by subst e; exact np j _ ht rfl e2
      exact ⟨q, ys, e2, k1, k2.mono ff, by rw [upd_ne hq]; exact k3, k4⟩
    | dic es =>
      obtain ⟨q, ys, e2, k1, k2, k3, k4⟩ := z
      have hq : q ≠ p := fun e => by subst e; exact np j _ ht rfl e2
      exact ⟨q, ys, e2, k1, k2.mono ff, by rw [upd_ne hq]; exact k3, k4⟩
    | obj _ _ => exact z
/-- a new list or dict as a value -/
theorem T_fr {c : CO} {Q : V → Hp → Prop} (h : T S Φ W (.fr c) σ H Q) : TO' S Φ W c σ H Q := by
  obtain ⟨G, F₀, F, ρ, R, h⟩ := h
  refine ⟨G, F₀, F, ρ, R, (Got.bind (okO S G σ) h).imp fun x H1 ⟨F1, s, ρ1, hh1, ff1, R1, k1, _, h1⟩ => ?_⟩
  obtain ⟨p, rfl, hs, os, np⟩ := k1
  obtain ⟨v, e, h2⟩ := h1.ofO
  obtain ⟨d, e, rfl⟩ := Option.map_eq_some_iff.mp e
  cases s with
  | lst ds =>
    cases e
    obtain ⟨p', xs, e1, g1, g2, g3, g4⟩ := hs
    cases e1
    exact h2 (.ref p) H1 (upd F1 p (.lst xs)) (Same.refl _) (same_upd g3) (R1.shut g1 g3 g4 np) (show Rp S _ (.ref p) _ from .lst (.inl (.inl upd_same)) (g2.mono (same_upd g3)))
  | dic kvs =>
    cases e
    obtain ⟨p', o, e1, g1, g2, g3, g4⟩ := hs
    cases e1
    exact h2 (.ref p) H1 (upd F1 p o) (Same.refl _) (same_upd g3) (R1.shut g1 g3 g4 np) (show Rp S _ (.ref p) _ from .ofDic upd_same (g2.mono (same_upd g3)))
  | _ => cases os
theorem Rel.fresh (R : Rel S G F₀ σ H F ρ) {p : Addr} (h : H p = none) : ∀ (j : Nat) t, ρ[j]? = some t → ownS t = true → σ[j]? ≠ some (some (.ref p)) := fun j t hj ot e => by
  obtain ⟨q, u, e1, h1, _⟩ := (R.slot j t hj).own_at ot
  rw [e] at e1
  cases e1
  rw [h] at h1
  cases h1
theorem evs_len : ∀ (es : CEs) (ρ ρ' : Env) (vs : List EV), evs Φ es ρ = .ok vs ρ' → vs.length = lenEs es
  | .nil, _, _, _, h => by cases h; rfl
  | .cons e es, ρ, ρ', vs, h => by
    have h : ((ev Φ e ρ).bind fun v ρ => (evs Φ es ρ).bind fun vs ρ => .ok (v :: vs) ρ) = .ok vs ρ' := h
    cases e1 : ev Φ e ρ with
    | stuck => rw [e1] at h; cases h
    | exc _ _ => rw [e1] at h; cases h
    | ok v ρ1 =>
      rw [e1] at h
      have h : ((evs Φ es ρ1).bind fun vs ρ => .ok (v :: vs) ρ) = .ok vs ρ' := h
      cases e2 : evs Φ es ρ1 with
      | stuck => rw [e2] at h; cases h
      | exc _ _ => rw [e2] at h; cases h
      | ok ws ρ2 =>
        rw [e2] at h
        cases h
        simp [lenEs, evs_len es _ _ ws e2]
theorem T_tuple {es : CEs} {Q : V → Hp → Prop} (hn : lenEs es ≤ 1000) (h : T S Φ W (.tuple es) σ H Q) : tTup (TS' S Φ W es) σ H Q := by
  obtain ⟨G, F₀, F, ρ, R, h⟩ := h
  refine ⟨G, F₀, F, ρ, R, (Got.bind (okVs S σ) h).imp fun xs H1 ⟨F1, vs, ρ1, hh1, ff1, R1, k1, e1, h1⟩ => ?_⟩
  obtain ⟨ds, ρ2, F2, ff2, rs, R2, h2⟩ := Got.freezeAll vs xs ρ1 F1 _ h1 R1 k1
  have hl := k1.length
  rw [evs_len es _ _ _ e1] at hl
  refine ⟨by rw [sizeLine_eq]; omega, fun p hp => ?_⟩
  have E := Ext.new R2.fle (.tup xs) hp
  exact h2 (.ref p) _ _ E.hh E.ff (R2.ext E) (show Rp S _ (.ref p) (.tuple ds) from .tup (.inl (.inl upd_same)) (rs.mono E.ff))
theorem T_list {es : CEs} {Q : V → Hp → Prop} (hn : lenEs es ≤ 1000) (h : TO' S Φ W (.list es) σ H Q) : tLst (TS' S Φ W es) σ H Q := by
  obtain ⟨G, F₀, F, ρ, R, h⟩ := h
  refine ⟨G, F₀, F, ρ, R, (Got.bind (okVs S σ) h).imp fun xs H1 ⟨F1, vs, ρ1, hh1, ff1, R1, k1, e1, h1⟩ => ?_⟩
  obtain ⟨ds, ρ2, F2, ff2, rs, R2, h2⟩ := Got.freezeAll vs xs ρ1 F1 _ h1 R1 k1
  have hl := k1.length
  rw [evs_len es _ _ _ e1] at hl
  refine ⟨by rw [sizeLine_eq]; omega, fun p hp => ?_⟩
  have E := Ext.raw R2.fle (.lst xs) hp
  exact h2 (.ref p) _ _ E.hh E.ff (R2.ext E) ⟨p, rfl, ⟨p, xs, rfl, upd_same, rs, R2.fle.free hp, R2.gle.free hp⟩, rfl, R2.fresh hp⟩
theorem T_dict0 {Q : V → Hp → Prop} (h : TO' S Φ W .dict0 σ H Q) : tDNewK σ H Q := by
  obtain ⟨G, F₀, F, ρ, R, h⟩ := h
  intro p hp
  have E := Ext.raw R.fle (.dK []) hp
  exact h (.ref p) _ _ E.hh E.ff (R.ext E) ⟨p, rfl, ⟨p, _, rfl, upd_same, .inl ⟨[], rfl, .nil, by simp⟩, R.fle.free hp, R.gle.free hp⟩, rfl, R.fresh hp⟩
theorem pk_key {x : V} {k : NK} (h : Pk S F H x k.data) : Rp S F x k.data := by
  generalize hd : k.data = d at h
  cases h with
  | of h => exact h
  | lst _ _ => cases k <;> simp [NestedKey.data] at hd
  | dic _ _ => cases k <;> simp [NestedKey.data, dictOf] at hd
/-- the first step's word, one object more guarded -/
theorem Got.bindG {γ δ : Type} {o : Out α} {f : α → Env → Out γ} {ok2 : Hp → Hp → Env → γ → δ → Prop} {Q : δ → Hp → Prop} {D : Addr} {u : HO} (gD : G D = none) (ok1 : Hp → Hp → Env → α → β → Prop) (h : Got S W ok2 G F₀ σ H F (o.bind f) Q) (hD : H D = none) :
    Got S W ok1 (upd G D u) F₀ σ (upd H D u) F o (fun x H1 => ∃ F1 a ρ1, Same (upd H D u) H1 ∧ Same F F1 ∧ Rel S (upd G D u) F₀ σ H1 F1 ρ1 ∧ ok1 H1 F1 ρ1 a x ∧ o = .ok a ρ1) := by
  cases o with
  | stuck => exact h
  | ok v ρ' => exact fun x H' F' c d r k => ⟨F', v, ρ', c, d, r, k, rfl⟩
  | exc e ρ' => exact fun cls d H' F' c ff r ex => h cls d H' F' ((same_upd hD).trans c) ff (r.dropG gD) ex
theorem T_dict1 {k x : CE} {Q : V → Hp → Prop} (h : TO' S Φ W (.dict1 k x) σ H Q) : tD1 S (T S Φ W k) (T S Φ W x) σ H Q := by
  obtain ⟨G, F₀, F, ρ, R, h⟩ := h
  intro p hp
  have gp := R.gle.free hp
  have f0 : F₀ p = none := by
    cases e : F₀ p with
    | none => rfl
    | some o => have := R.old p o e; rw [R.fle.free hp] at this; cases this
  have h : Got S W (okO S G σ) G F₀ σ H F ((ev Φ k ρ).bind fun k ρ => (ev Φ x ρ).bind fun x ρ => (VI.freeze x ρ).bind fun x ρ => (ofO ((VI.view ρ k).bind (dKey [])) ρ).bind fun k ρ => .ok (.dic [(k, x)]) ρ) Q := h
  refine ⟨upd G p (.dK []), F₀, F, ρ, R.addG _ hp, (Got.bindG gp (okV S σ) h hp).imp fun y H1 ⟨F1, vk, ρ1, hh1, ff1, R1, k1, e1⟩ => ?_⟩
  rw [e1] at h
  have h : Got S W (okO S G σ) G F₀ σ H F ((ev Φ x ρ1).bind fun x ρ => (VI.freeze x ρ).bind fun x ρ => (ofO ((VI.view ρ vk).bind (dKey [])) ρ).bind fun k ρ => .ok (.dic [(k, x)]) ρ) Q := h
  refine ⟨upd G p (.dK []), F₀, F1, ρ1, R1, ?_⟩
  have hx : Got S W (okV S σ) (upd G p (.dK [])) F₀ σ H1 F1 (ev Φ x ρ1) (fun x' H2 => ∃ F2 vx ρ2, Same H1 H2 ∧ Same F1 F2 ∧ Rel S (upd G p (.dK [])) F₀ σ H2 F2 ρ2 ∧ okV S σ H2 F2 ρ2 vx x' ∧ ev Φ x ρ1 = .ok vx ρ2) := by
    cases e2 : ev Φ x ρ1 with
    | stuck => rw [e2] at h; exact h.elim
    | ok v ρ' => exact fun x H' F' c d r k => ⟨F', v, ρ', c, d, r, k, rfl⟩
    | exc e ρ' =>
      rw [e2] at h
      exact fun cls d H' F' c ff r ex => h cls d H' F' ((same_upd hp).trans (hh1.trans c)) (ff1.trans ff) (r.dropG gp) ex
  refine hx.imp fun x' H2 ⟨F2, vx, ρ2, hh2, ff2, R2, k2, e2⟩ => ?_
  rw [e2] at h
  have h : Got S W (okO S G σ) G F₀ σ H F ((VI.freeze vx ρ2).bind fun x ρ => (ofO ((VI.view ρ vk).bind (dKey [])) ρ).bind fun k ρ => .ok (.dic [(k, x)]) ρ) Q := h
  cases e3 : VI.freeze vx ρ2 with
  | stuck => rw [e3] at h; exact h.elim
  | exc e ρ' =>
    unfold VI.freeze at e3
    split at e3
    · cases e3
    · split at e3 <;> cases e3
  | ok d ρ3 =>
    rw [e3] at h
    have h : Got S W (okO S G σ) G F₀ σ H F ((ofO ((VI.view ρ3 vk).bind (dKey [])) ρ3).bind fun k ρ => .ok (.dic [(k, d)]) ρ) Q := h
    obtain ⟨F3, ff3, rd, R3⟩ := R2.freeze k2 e3
    cases e4 : (VI.view ρ3 vk).bind (dKey []) with
    | none => rw [e4] at h; exact h.elim
    | some kk =>
      rw [e4] at h
      have h : Got S W (okO S G σ) G F₀ σ H F (.ok (.dic [(kk, d)]) ρ3) Q := h
      obtain ⟨dk, e5, e6⟩ := Option.bind_eq_some_iff.mp e4
      obtain ⟨rfl, hk⟩ := dKey_some e6
      have rk := pk_key (R3.view ((k1.mono ff2).mono ff3) e5)
      have hp2 := R3.gle p (.dK []) upd_same
      obtain ⟨f3, nf⟩ := R3.noD f0
      refine ⟨hp2, F3, kk, d, R3.fle, hk, rk, rd, fun o' rd' => ?_⟩
      refine h (.ref p) _ F3 (fun b o hb => ?_) (ff1.trans (ff2.trans ff3)) ((R3.reD f0 o').dropG gp) ⟨p, rfl, ⟨p, o', rfl, upd_same, rd', f3, gp⟩, rfl, fun j t hj ot e => nf j t hj ot e⟩
      have hb' : b ≠ p := fun e => by rw [e, hp] at hb; cases hb
      rw [upd_ne hb']
      exact hh2 b o (hh1 b o (by rw [upd_ne hb']; exact hb))
theorem T_listOf {a : CE} {Q : V → Hp → Prop} (h : TO' S Φ W (.listOf a) σ H Q) : tCB (rListOf S) (tCons (T S Φ W a) tNil) σ H Q := by
  obtain ⟨G, F₀, F, ρ, R, h⟩ := h
  refine T_one R h fun vx x ρ2 H2 F2 R2 k h2 => ?_
  obtain ⟨s, e, h3⟩ := h2.ofO
  obtain ⟨ds, e', rfl⟩ := Option.map_eq_some_iff.mp e
  obtain ⟨d, e1, e2⟩ := Option.bind_eq_some_iff.mp e'
  refine ⟨F2, d, ds, R2.fle, .cons (R2.view k e1) .nil, e2, fun p ys hp r => ?_⟩
  have E := Ext.raw R2.fle (.lst ys) hp
  exact h3 (.ref p) _ _ E.hh E.ff (R2.ext E) ⟨p, rfl, ⟨p, ys, rfl, upd_same, r, R2.fle.free hp, R2.gle.free hp⟩, rfl, R2.fresh hp⟩
def tPt (S : Sx) (Φ : Fns) (W : WX) (c : CE) : TO := fun σ H R => if isNoneL c = true then R none H else T S Φ W c σ H fun x H1 => ∃ i, x = .int i ∧ R (some i) H1
theorem T_part {c : CE} {Qt : Option Int → Hp → Prop} {okQ : Hp → Hp → Env → α → β → Prop} {Qf : β → Hp → Prop} {f : Option Int → Env → Out α} (R : Rel S G F₀ σ H F ρ)
    (h : Got S W okQ G F₀ σ H F ((ev Φ c ρ).bind fun l ρ => (ofO (partV (isNoneL c) (view ρ l)) ρ).bind f) Qf)
    (q : ∀ l ρ2 H2 F2, Same F F2 → Rel S G F₀ σ H2 F2 ρ2 → Got S W okQ G F₀ σ H2 F2 (f l ρ2) Qf → Qt l H2) : tPt S Φ W c σ H Qt := by
  unfold tPt
  split
  · rename_i hc
    have e : c = .lit .none := by
      unfold isNoneL at hc
      split at hc
      · rfl
      · cases hc
    subst e
    exact q none ρ H F (Same.refl _) R h
  · rename_i hc
    refine ⟨G, F₀, F, ρ, R, (Got.bind (okV S σ) h).imp fun x H1 ⟨F1, vx, ρ1, hh1, ff1, R1, k1, e1, h1⟩ => ?_⟩
    have hc : isNoneL c = false := by simpa using hc
    rw [hc] at h1
    cases e : (VI.view ρ1 vx).bind intP with
    | none =>
      have e2 : partV false (VI.view ρ1 vx) = none := by simp [partV, e]
      rw [e2] at h1
      exact h1.elim
    | some i =>
      have e2 : partV false (VI.view ρ1 vx) = some (some i) := by simp [partV, e]
      rw [e2] at h1
      exact ⟨i, view_int R1 k1 e, q (some i) ρ1 H1 F1 ff1 R1 h1⟩
theorem T_slice {a lo hi : CE} {Q : V → Hp → Prop} (h : T S Φ W (.slice a lo hi) σ H Q) : tSl (rSlD S) (T S Φ W a) (tPt S Φ W lo) (tPt S Φ W hi) σ H Q := by
  obtain ⟨G, F₀, F, ρ, R, h⟩ := h
  refine ⟨G, F₀, F, ρ, R, (Got.bind (okV S σ) h).imp fun x H1 ⟨F1, vx, ρ1, hh1, ff1, R1, k1, e1, h1⟩ => ?_⟩
  refine T_part R1 h1 fun l ρ2 H2 F2 ff2 R2 h2 => ?_
  refine T_part R2 h2 fun u ρ3 H3 F3 ff3 R3 h3 => ?_
  obtain ⟨r, e, q⟩ := h3.val R3
  obtain ⟨dx, e1, e2⟩ := Option.bind_eq_some_iff.mp e
  exact ⟨F3, dx, r, R3.fle, R3.view (k1.mono (ff2.trans ff3)) e1, e2, q⟩
theorem po_of {X : Cx} {c : CE} {e : Option Expr} (h : (e = none ∧ isNoneL c = true) ∨ ∃ x, e = some x ∧ isNoneL c = false ∧ PE X x (T S Φ W c)) : L2.PO X e (tPt S Φ W c) := by
  rcases h with ⟨rfl, hc⟩ | ⟨x, rfl, hc, hx⟩
  · refine ⟨fun pins s σ H Q I w => po_none.run pins s σ H Q I ?_⟩
    unfold tPt at w
    rw [if_pos hc] at w
    exact w
  · refine ⟨fun pins s σ H Q I w => (po_some hx).run pins s σ H Q I ?_⟩
    unfold tPt at w
    rw [if_neg (by rw [hc]; exact Bool.false_ne_true)] at w
    exact w
theorem dictD {F : Hp} {x : V} {l : List (PyData × PyData)} (e : Same F H) (h : Pk S F H x (.dict l)) : ∃ kvs a o, PyData.dict l = dictOf kvs ∧ x = .ref a ∧ H a = some o ∧ DicL S F a o kvs := by
  have key : ∃ kvs, PyData.dict l = dictOf kvs := by
    generalize hd : PyData.dict l = d at h
    cases h with
    | of h =>
      cases h with
      | dicK _ _ _ e => exact ⟨_, e⟩
      | dicT _ _ _ e => exact ⟨_, e⟩
      | _ => cases hd
    | lst _ _ => cases hd
    | dic _ _ => exact ⟨_, rfl⟩
  obtain ⟨kvs, e1⟩ := key
  rw [e1] at h
  obtain ⟨a, o, e2, h1, h2⟩ := h.dicE e
  exact ⟨kvs, a, o, e1, e2, h1, h2⟩
theorem dict_at {X : Cx} {pins : List (Addr × Obj)} {H F : Hp} {s : Shared} {a : Addr} {o : HO} {kvs : List (NK × PyData)} (I : Inv X pins σ H s) (h : H a = some o) (r : DicL X.sy F a o kvs) :
    s.TypeIs (.ref a) "dict" ∧ ∀ b, Value.ref a = .ref b → ∃ ob, s.heap.get? b = some ob ∧ ob.dict = none := by
  rcases r.two h with ⟨ks, h, _⟩ | ⟨ks, h, _⟩
  · obtain ⟨t1, t2, _⟩ := isD_at I (.inl ⟨ks, h⟩)
    exact ⟨t1, t2⟩
  · obtain ⟨_, _, xs, _, o', es, ep, g1, g2, _⟩ := (I.hok a _ h).1
    refine ⟨⟨o', g1, g2.1⟩, fun b e => ?_⟩
    cases e
    exact ⟨o', g1, g2.2.1⟩
theorem pe_get2 {X : Cx} {o e f : Expr} {apos cpos : Pos} {a k y : CE} (hu : X.A.units + 200 < cLine) (ho : PE X o (T X.sy Φ W a)) (he : PE X e (T X.sy Φ W k)) (hf : PE X f (T X.sy Φ W y)) (m : M2 X o "get" apos e f cpos) :
    PE X (.Call (.Attribute o "get" apos) [e, f] [] cpos) (T X.sy Φ W (.get2 a k y)) := by
  refine ⟨fun pins s σ H Q I h => ?_⟩
  obtain ⟨G, F₀, F, ρ, R, h⟩ := h
  have h0 : T X.sy Φ W a σ H _ := ⟨G, F₀, F, ρ, R, Got.bind (okV X.sy σ) h⟩
  refine wpAny_Call_method m.base m.few m.line PySem.F.plainAttrs_dict PySem.F.slot_dict_get PySem.F.type_dict_get (thn (ho.run pins s σ H _ I h0) fun u s1 ⟨x, H1, I1, rx, F1, vx, ρ1, hh1, ff1, R1, k1, e1, h1⟩ => ?_)
  split at h1
  rotate_left
  · exact h1.elim
  rename_i hd
  obtain ⟨d, hv, hd⟩ := Option.map_eq_some_iff.mp hd
  obtain ⟨l, rfl⟩ : ∃ l, d = .dict l := by cases d <;> first | exact ⟨_, rfl⟩ | cases hd
  obtain ⟨kvs, p, ob, e2, rfl, hp, rd⟩ := dictD R1.fle (R1.view k1 hv)
  obtain rfl : u = Value.ref p := rx
  obtain ⟨t1, t2⟩ := dict_at I1 hp rd
  refine ⟨t1, t2, ?_⟩
  rw [m.trees]
  have h2 : T X.sy Φ W k σ H1 _ := ⟨G, F₀, F1, ρ1, R1, Got.bind (okV X.sy σ) h1⟩
  refine Calls.callWith_builtin rfl (Calls.evalArgs_plain (Calls.spliced_cons (thn (he.run pins s1 σ H1 _ I1 h2) fun iv s2 ⟨yk, H2, I2, ry, F2, vy, ρ2, hh2, ff2, R2, k2, e3, h3⟩ => ?_)))
  have h4 : T X.sy Φ W y σ H2 _ := ⟨G, F₀, F2, ρ2, R2, Got.bind (okV X.sy σ) h3⟩
  refine Calls.spliced_cons (thn (hf.run pins s2 σ H2 _ I2 h4) fun fv s3 ⟨z, H3, I3, rz, F3, vz, ρ3, hh3, ff3, R3, k3, e4, h5⟩ => Calls.spliced_nil ?_)
  obtain ⟨dz, ρ4, F4, ff4, rz4, R4, h6⟩ := h5.freeze R3 k3
  obtain ⟨r, e5, q⟩ := h6.val R4
  obtain ⟨dx, dk, g1, g2, g3⟩ := both_some e5
  have px := R4.view (k1.mono (ff2.trans (ff3.trans ff4))) g1
  have pk := R4.view (k2.mono (ff3.trans ff4)) g2
  unfold getD at g3
  split at g3
  rotate_left
  · cases g3
  rename_i l'
  obtain ⟨kvs', g4, g5⟩ := Option.bind_eq_some_iff.mp g3
  obtain ⟨kk, g6, rfl⟩ := Option.map_eq_some_iff.mp g5
  obtain ⟨rfl, hkind⟩ := dKey_some g6
  rw [undict_some g4] at px
  obtain ⟨p', o', e6, hp', rd'⟩ := px.dicE R4.fle
  cases e6
  exact e_get2 (W := W0) (by omega) I3 R4.fle hp' rd' hkind (pk.rp R4.fle) ry rz4 rz rfl fun v u' s' I' ru rv => ⟨v, H3, I', ru, q v H3 F4 (.refl R4.fle) rv⟩
end
end VI
set_option Elab.async false
set_option linter.all false
set_option autoImplicit false
set_option maxRecDepth 20000
/-! The keys of a dict walked in a comprehension. -/
namespace VI
open PySem PySem.Spec PyProof.Rows L2
def iKeysL (X : Cx) (te : TE) : TI := fun σ H R => te σ H fun x H1 => ∃ d kvs, x = .ref d ∧
  ((H1 d = some (.dK kvs) ∧ ∀ od, (∀ o' u', X.H_0 d ≠ some (.frz o' u')) → R (Itk d od kvs) (upd H1 d (.frz od (.dK kvs)))) ∨ ∃ od, H1 d = some (.frz od (.dK kvs)) ∧ R (Itk d od kvs) H1)
theorem pi_keysL {X : Cx} {tg e : Expr} {te : TE} (he : PE X e te) : PI X tg e (iKeysL X te) := by
  refine ⟨fun pins s σ H R I h => ?_⟩
  refine thn (he.run pins s σ H _ I h) fun u s1 ⟨x, H1, I1, rx, d, kvs, ex, q⟩ => ?_
  subst ex
  obtain rfl : u = Value.ref d := rx
  rcases q with ⟨hd, q⟩ | ⟨od, hd, q⟩
  · obtain ⟨od, I2⟩ := I1.lock hd trivial
    obtain ⟨hs, hgd, hx, es, ep, vs, hdt, hsz, kv, hm⟩ := I2.frzK upd_same
    refine iter_keys hs hgd hx hdt (pi_one (tk := s1.toks) I2 _ (turn_keys _ hdt) ⟨_, Heap.get?_push_size _ rfl, rfl, ?_⟩ (q od (I1.nofrz hd trivial)))
    rw [hsz] <;> rfl
  · obtain ⟨hs, hgd, hx, es, ep, vs, hdt, hsz, kv, hm⟩ := I1.frzK hd
    refine iter_keys hs hgd hx hdt (pi_one (tk := s1.toks) I1 _ (turn_keys _ hdt) ⟨_, Heap.get?_push_size _ rfl, rfl, ?_⟩ q)
    rw [hsz] <;> rfl
/-- wanted as it is, or once a lock is off -/
def Unl (X : Cx) (Q : V → Hp → Prop) : V → Hp → Prop := fun v H' => Q v H' ∨ ∃ d od u, H' d = some (.frz od u) ∧ (∀ o' u', X.H_0 d ≠ some (.frz o' u')) ∧ Q v (upd H' d u)
def UnlS {α : Type} (X : Cx) (Q : α → Hp → Prop) : α → Hp → Prop := fun v H' => Q v H' ∨ ∃ d od u, H' d = some (.frz od u) ∧ (∀ o' u', X.H_0 d ≠ some (.frz o' u')) ∧ Q v (upd H' d u)
theorem pe_unl {X : Cx} {e : Expr} {t : TE} (h : PE X e t) : PE X e fun σ H Q => t σ H (Unl X Q) := by
  refine ⟨fun pins s σ H Q I hw => ?_⟩
  refine thn (h.run pins s σ _ _ I hw) fun v s1 ⟨x, H1, I2, r, q⟩ => ?_
  rcases q with q | ⟨d, od, u, e2, hn, q⟩
  · exact ⟨x, _, I2, r, q⟩
  · exact ⟨x, _, I2.unlock e2 hn, r, q⟩
theorem ps_unl {X : Cx} {st : Stmt} {t : TS} (h : PS X st t) : PS X st fun D σ H => t { D with nx := UnlS X D.nx } σ H := by
  refine ⟨fun pins s σ H D I hw => ?_⟩
  refine thn (h.run pins s σ _ _ I hw) fun f s1 q => ?_
  cases f with
  | next =>
    obtain ⟨σ', H', I2, q⟩ := q
    rcases q with q | ⟨d, od, u, e2, hn, q⟩
    · exact ⟨σ', _, I2, q⟩
    · exact ⟨σ', _, I2.unlock e2 hn, q⟩
  | brk => exact q
  | cont => exact q
  | ret v => exact q
section
variable {S : Sx} {Φ : Fns} {W : WX} {G F₀ F H : Hp} {σ : L2.St} {ρ : Env}
theorem flat_key {k : Key} {F : Hp} : Rp S F (kV k) (nkOf k).data := by
  cases k with
  | inl i => exact .int i
  | inr x => exact .str x
theorem walk_keys {B F1 : Hp} {d : Addr} {od : Obj} {ks : List (Key × V)} {kvs : List (NK × PyData)} (h : B d = some (.frz od (.dK ks))) (r : RpK S F1 ks kvs) : WalkOk S B F1 (Itk d od ks) (kvs.map fun p => p.1.data) := by
  intro H F hB hF hS i
  have q := hB _ _ h
  have hl : ks.length = kvs.length := r.length
  refine ⟨fun hi => ⟨q, by rw [List.length_map] at hi; omega⟩, fun x hx => ?_⟩
  rw [List.getElem?_map] at hx
  obtain ⟨p, hp, rfl⟩ := Option.map_eq_some_iff.mp hx
  have hlt := (List.getElem?_eq_some_iff.mp hp).1
  refine ⟨⟨q, by omega⟩, fun y H' hy => ?_⟩
  obtain ⟨rfl, k, v, hk, rfl⟩ := hy
  have key : ∀ {ks : List (Key × V)} {kvs : List (NK × PyData)}, RpK S F1 ks kvs → ∀ (i : Nat) (k : Key) (v : V) (p : NK × PyData), ks[i]? = some (k, v) → kvs[i]? = some p → nkOf k = p.1 := by
    intro ks kvs r
    induction ks generalizing kvs with
    | nil => intro i k v p h; simp at h
    | cons a ks ih =>
      cases r with
      | cons h1 h2 h3 =>
        intro i k v p h h'
        cases i with
        | zero =>
          simp at h h'
          subst h'
          obtain ⟨rfl, rfl⟩ := h
          exact h1
        | succ i => exact ih h3 i k v p (by simpa using h) (by simpa using h')
  have e := key r i k v p hk hp
  exact ⟨F, .refl hS, by rw [← e]; exact flat_key⟩
theorem ok_flat {k : NK} (h : okKey k = true) : flatK k = false := by
  cases k <;> first | rfl | cases h
theorem compL_noexc {elt cond : Env → Out EV} {tg : Tg} {ρ₀ : Env} {vs : List Nat} : ∀ (xs acc : List PyData) (ρ : Env) (x : Exc) (r : Env), compL elt cond tg ρ₀ vs xs acc ρ ≠ .exc x r
  | [], acc, ρ, x, r, h => by simp [compL] at h
  | y :: xs, acc, ρ, x, r, h => by
    unfold compL at h
    split at h
    · cases h
    split at h
    · split at h
      · split at h
        · split at h
          · split at h
            · exact compL_noexc xs _ _ x r h
            · cases h
          · cases h
        · cases h
      · exact compL_noexc xs _ _ x r h
      · cases h
    · cases h
theorem comp_noexc {elt cond : CE} {tg : Tg} {ρ₀ ρ1 : Env} {vs : List Nat} {xs : List PyData} (x : Exc) (r : Env) : (if okWipe ρ1 vs then (compL (fun ρ => ev Φ elt ρ) (fun ρ => ev Φ cond ρ) tg ρ₀ vs xs [] ρ1).bind fun ys ρ' => .ok (.lst ys) (backE ρ₀ ρ' vs) else (.stuck : Out SV)) ≠ .exc x r := by
  split
  · intro h
    cases e : compL (fun ρ => ev Φ elt ρ) (fun ρ => ev Φ cond ρ) tg ρ₀ vs xs [] ρ1 with
    | stuck => rw [e] at h; cases h
    | ok a b => rw [e] at h; cases h
    | exc a b => exact absurd e (compL_noexc _ _ _ _ _)
  · intro h; cases h
theorem T_compK {X : Cx} {a elt cond : CE} {tg : Tg} {vs : List Nat} {tt : TT} {Q : V → Hp → Prop} (hv : slotsIn vs tg = true) (ht : ∀ σ H Q, TB X.sy Φ W0 cond σ H Q → tt σ H Q) (h : TO' X.sy Φ W (.comp elt tg (.keys a) cond vs) σ H Q) :
    tLc (iKeysL X (T X.sy Φ W a)) (gOf X.K tg) tt (T X.sy Φ W0 elt) vs σ H (Unl X Q) := by
  obtain ⟨G, F₀, F, ρ, R, h⟩ := h
  have h : Got X.sy W (okO X.sy G σ) G F₀ σ H F (((ev Φ a ρ).bind fun x ρ => ofO (keysV false x) ρ).bind fun xs ρ => if okWipe ρ vs then
      (compL (fun ρ => ev Φ elt ρ) (fun ρ => ev Φ cond ρ) tg ρ vs xs [] ρ).bind fun ys ρ' => .ok (.lst ys) (backE ρ ρ' vs) else .stuck) Q := h
  have h : Got X.sy W (okO X.sy G σ) G F₀ σ H F ((ev Φ a ρ).bind fun x ρ => (ofO (keysV false x) ρ).bind fun xs ρ => if okWipe ρ vs then
      (compL (fun ρ => ev Φ elt ρ) (fun ρ => ev Φ cond ρ) tg ρ vs xs [] ρ).bind fun ys ρ' => .ok (.lst ys) (backE ρ ρ' vs) else .stuck) Q := by
    cases e : ev Φ a ρ with
    | stuck => rw [e] at h; exact h
    | exc x r => rw [e] at h; exact h
    | ok x r => rw [e] at h; exact h
  refine ⟨G, F₀, F, ρ, R, (Got.bind (okV X.sy σ) h).imp fun x H1 ⟨F1, vx, ρ1, hh1, ff1, R1, k1, e1, h1⟩ => ?_⟩
  cases e2 : keysV false vx with
  | none => rw [e2] at h1; exact h1.elim
  | some xs =>
  rw [e2] at h1
  cases vx with
  | own i => cases e2
  | d y =>
  have e2 : keysD y = some xs := e2
  obtain ⟨l, rfl⟩ : ∃ l, y = .dict l := by
    cases y with
    | dict l => exact ⟨l, rfl⟩
    | _ => cases e2
  have e2 : ((undict l).bind fun kvs => if kvs.all (fun p => flatK p.1) then some (kvs.map fun p => p.1.data) else none) = some xs := e2
  obtain ⟨kvs, e3, e4⟩ := Option.bind_eq_some_iff.mp e2
  by_cases hfl : kvs.all (fun p => flatK p.1) = true
  rotate_left
  · rw [if_neg hfl] at e4
    cases e4
  rw [if_pos hfl] at e4
  cases e4
  have k1 : Rp X.sy F1 x (.dict l) := k1
  rw [undict_some e3] at k1
  obtain ⟨d, o, rfl, hd, rd⟩ := k1.dicE
  have h1 : Got X.sy W (okO X.sy G σ) G F₀ σ H1 F1 (if okWipe ρ1 vs then
      (compL (fun ρ => ev Φ elt ρ) (fun ρ => ev Φ cond ρ) tg ρ1 vs (kvs.map fun p => p.1.data) [] ρ1).bind fun ys ρ' => .ok (.lst ys) (backE ρ1 ρ' vs) else .stuck) Q := h1
  rcases rd.two hd with ⟨ks, hk, r1, _⟩ | ⟨ks, hk, r1, n1⟩
  rotate_left
  · exfalso
    cases r1 with
    | nil => exact n1 rfl
    | cons ok _ _ _ =>
      rw [List.all_cons, Bool.and_eq_true] at hfl
      have h1 := hfl.1
      rw [show flatK _ = false from ok_flat ok] at h1
      cases h1
  rcases hk with hk | ⟨od, hk⟩
  rotate_left
  · refine ⟨d, ks, rfl, .inr ⟨od, R1.fle _ _ hk, ?_⟩⟩
    have := comp_core (S := X.sy) (W := W) hv ht R1 (walk_keys (R1.fle _ _ hk) r1) (h1.imp fun v H' q => (.inl q : Unl X Q v H'))
    exact this
  · refine ⟨d, ks, rfl, .inl ⟨R1.fle _ _ hk, fun od hn => ?_⟩⟩
    have RL := R1.lock (od := od) hk
    have swl : Sw F1 (upd F1 d (.frz od (.dK ks))) d ks := ⟨.inl hk, .inr ⟨od, upd_same⟩, fun b hb => (upd_ne hb).symm⟩
    refine comp_core (S := X.sy) (W := W) hv ht RL (walk_keys upd_same (r1.sw swl)) ?_
    have nx : ∀ x r, (if okWipe ρ1 vs then (compL (fun ρ => ev Φ elt ρ) (fun ρ => ev Φ cond ρ) tg ρ1 vs (kvs.map fun p => p.1.data) [] ρ1).bind fun ys ρ' => .ok (.lst ys) (backE ρ1 ρ' vs) else (.stuck : Out SV)) ≠ .exc x r := fun x r => comp_noexc x r
    revert h1 nx
    generalize (if okWipe ρ1 vs then (compL (fun ρ => ev Φ elt ρ) (fun ρ => ev Φ cond ρ) tg ρ1 vs (kvs.map fun p => p.1.data) [] ρ1).bind fun ys ρ' => .ok (.lst ys) (backE ρ1 ρ' vs) else (.stuck : Out SV)) = m
    intro h1 nx
    have hS : ∀ {H' : Hp}, H' d = some (.frz od (.dK ks)) → Same (upd H1 d (.frz od (.dK ks))) H' → Same H1 (upd H' d (.dK ks)) := fun {H'} hd' hh b o q => by
      by_cases hb : b = d
      · subst hb; rw [upd_same]; rw [R1.fle _ _ hk] at q; exact q
      · rw [upd_ne hb]; exact hh b o (by rw [upd_ne hb]; exact q)
    cases m with
    | stuck => exact h1
    | exc e ρ' => exact absurd rfl (nx e ρ')
    | ok v ρ' =>
      intro x H' F' hh ff R' hok
      obtain ⟨f2, h2, hFF, R3, sw⟩ := R1.unlock hk ff R'
      refine .inr ⟨d, od, .dK ks, h2, hn, h1 x _ _ (hS h2 hh) hFF R3 ?_⟩
      obtain ⟨p, rfl, so, os, np⟩ := hok
      refine ⟨p, rfl, ?_, os, np⟩
      have nd : ∀ p, F' p = none → p ≠ d := fun p hp e => by rw [e, f2] at hp; cases hp
      cases v with
      | lst ds =>
        obtain ⟨p', xs, e5, g1, g2, g3, g4⟩ := so
        cases e5
        exact ⟨p, xs, rfl, by rw [upd_ne (nd p g3)]; exact g1, g2.sw sw, by rw [upd_ne (nd p g3)]; exact g3, lkG_none.mp g4⟩
      | dic kvs =>
        obtain ⟨p', o, e5, g1, g2, g3, g4⟩ := so
        cases e5
        exact ⟨p, o, rfl, by rw [upd_ne (nd p g3)]; exact g1, g2.sw sw, by rw [upd_ne (nd p g3)]; exact g3, lkG_none.mp g4⟩
      | _ => cases os
/-- what is walked, a dict's keys too -/
def TIX (X : Cx) (Φ : Fns) (W : WX) (fz : Bool) : It → TI
  | .keys a => iKeysL X (T X.sy Φ W a)
  | .seq a => TI' X.sy Φ W fz (.seq a)
  | .range1 a => TI' X.sy Φ W fz (.range1 a)
  | .range2 a b => TI' X.sy Φ W fz (.range2 a b)
  | .enum a => TI' X.sy Φ W fz (.enum a)
  | .zip a b => TI' X.sy Φ W fz (.zip a b)
  | .rev a => TI' X.sy Φ W fz (.rev a)
theorem tix_true {X : Cx} {it : It} {R : L2.It → Hp → Prop} (h : TI' X.sy Φ W true it σ H R) : TIX X Φ W true it σ H R := by
  cases it with
  | keys a =>
    obtain ⟨G, F₀, F, ρ, R, h⟩ := h
    have h : Got X.sy W (okI X.sy true) G F₀ σ H F ((ev Φ a ρ).bind fun x ρ => ofO (keysV true x) ρ) _ := h
    refine ⟨G, F₀, F, ρ, R, (Got.bind (okV X.sy σ) h).imp fun x H1 ⟨F1, vx, ρ1, hh1, ff1, R1, k1, e1, h1⟩ => ?_⟩
    have : keysV true vx = none := by cases vx <;> rfl
    rw [this] at h1
    exact h1.elim
  | _ => exact h
theorem T_compX {X : Cx} {elt cond : CE} {tg : Tg} {it : It} {vs : List Nat} {tt : TT} {Q : V → Hp → Prop} (hv : slotsIn vs tg = true) (ht : ∀ σ H Q, TB X.sy Φ W0 cond σ H Q → tt σ H Q) (h : TO' X.sy Φ W (.comp elt tg it cond vs) σ H Q) :
    tLc (TIX X Φ W false it) (gOf X.K tg) tt (T X.sy Φ W0 elt) vs σ H (Unl X Q) := by
  have h2 : TO' X.sy Φ W (.comp elt tg it cond vs) σ H (Unl X Q) := by
    obtain ⟨G, F₀, F, ρ, R, h⟩ := h
    exact ⟨G, F₀, F, ρ, R, h.imp fun v H' q => .inl q⟩
  cases it with
  | keys a => exact T_compK hv ht h
  | _ => exact T_comp hv ht h2
end
end VI
set_option Elab.async false
set_option linter.all false
set_option autoImplicit false
set_option maxRecDepth 20000
/-! Expressions: all of them. -/
namespace VI
open PySem PySem.Spec PyProof.Rows L2

def mtId : Mt → String
  | .index => "list.index"
  | .join => "str.join"
  | .split => "str.split"
  | .partition => "str.partition"
  | .count => "str.count"
  | .upper => "str.upper"
def isBo : Expr → Bool
  | .BoolOp .. => true
  | _ => false
def AllE (Φ : Fns) (X : Cx) (W : WX) (e : Expr) (c : CE) : Prop := PE X e (T X.sy Φ W c) ∧ PT X e (TB X.sy Φ W c) ∧ (isBo e = true → PW X e (TB X.sy Φ W c))
section
variable {Φ : Fns} {st : Stc} {X : Cx} {W : WX} {e : Expr} {c : CE}
theorem AllE.gen (h : PE X e (T X.sy Φ W c)) (he : ∀ whole, isTrue e X.env whole = (do let v ← whole; standAt e.pos; holding [v] (truthy v))) (hb : isBo e = false) : AllE Φ X W e c :=
  ⟨h, pt_imp (pt_truth h he) fun σ H Q w => TB_val w, fun z => by rw [hb] at z; cases z⟩
theorem AllE.no (h : PE X e (T X.sy Φ W c)) (ht : PT X e (TB X.sy Φ W c)) (hb : isBo e = false) : AllE Φ X W e c := ⟨h, ht, fun z => by rw [hb] at z; cases z⟩
/-- what a comprehension is made of -/
structure LcOk (Φ : Fns) (X : Cx) (W : WX) (elt tg iter : Expr) (ifs : List Expr) (scope : Scope) (c : CO) : Prop where
  ex : ∃ (own : List (Str × Nat)) (wi : TI) (g : TG) (tt : TT) (te : TE), PI X tg iter wi ∧ BlkOk X.N X.env.scope scope own ∧
    (∀ (s : Shared) (H : Hp) (C : Addr) (cl : List (Str × Addr)) (fp : List Addr), PG (X.blk s H scope (compEnvC scope cl C X.env) fp) tg g) ∧
    (∀ (s : Shared) (H : Hp) (C : Addr) (cl : List (Str × Addr)) (fp : List Addr), PTs (X.blk s H scope (compEnvC scope cl C X.env) fp) ifs tt) ∧
    (∀ (s : Shared) (H : Hp) (C : Addr) (cl : List (Str × Addr)) (fp : List Addr), PE (X.blk s H scope (compEnvC scope cl C X.env) fp) elt te) ∧
    (∀ x, foldedSetIterable iter X.env x = pure x) ∧ ∀ σ H Q, TO' X.sy Φ W c σ H Q → tLc wi g tt te (own.map (·.2)) σ H (Unl X Q)
theorem own_map (N : List Str) (vs : List Nat) : (ownOf N vs).map (·.2) = vs := by
  induction vs with
  | nil => rfl
  | cons v vs ih => simp only [ownOf, List.map_cons] at ih ⊢; rw [ih]
theorem isTrueL_eq {c : CE} (h : isTrueL c = true) : c = .lit (.bool true) := by
  unfold isTrueL at h
  split at h
  · rfl
  · cases h
theorem TB_yes {S : Sx} {σ : L2.St} {H : Hp} {Q : Bool → Hp → Prop} (h : TB S Φ W (.lit (.bool true)) σ H Q) : tYes σ H Q := by
  obtain ⟨G, F₀, F, ρ, R, h⟩ := h
  exact h true H F (Same.refl _) (Same.refl _) R rfl
theorem one_arg {es : CEs} {y : Expr} (h : chkEs st es [y] = true) : ∃ a, es = .cons a .nil ∧ plainE y = true ∧ chkE st a y = true := by
  cases es with
  | nil => simp [chkEs] at h
  | cons a es =>
    cases es with
    | nil =>
      simp only [chkEs, Bool.and_eq_true, and_true] at h
      exact ⟨a, rfl, h.1, h.2⟩
    | cons b es => simp [chkEs] at h

/-- the value of a built-in function -/
theorem T_bi {b : Bi} {es : CEs} {σ : L2.St} {H : Hp} {Q : VK} (h : T X.sy Φ W (.bi b es) σ H Q) : tCB (rCa X.sy (biD b)) (TS' X.sy Φ W es) σ H Q := by
  obtain ⟨G, F₀, F, ρ, R, h⟩ := h
  refine TA_all R h fun vx xs ρ2 H2 F2 R2 k h2 => ?_
  obtain ⟨r, e, q⟩ := h2.val R2
  obtain ⟨ds, e1, e2⟩ := Option.bind_eq_some_iff.mp e
  exact ⟨F2, ds, r, R2.fle, R2.views k e1, e2, q⟩
/-- .. of one argument -/
theorem T_bi1 {b : Bi} {a : CE} {σ : L2.St} {H : Hp} {Q : VK} (h : T X.sy Φ W (.bi b (.cons a .nil)) σ H Q) : T X.sy Φ W a σ H fun x H1 => ∃ F d r, Same F H1 ∧ Pk X.sy F H1 x d ∧ biD b [d] = some r ∧ ∀ z H' F', Ext H1 F H' F' → Rp X.sy F' z r → Q z H' := by
  obtain ⟨G, F₀, F, ρ, R, h⟩ := h
  have h : Got X.sy W (okV X.sy σ) G F₀ σ H F ((((ev Φ a ρ).bind fun v ρ => (evs Φ .nil ρ).bind fun vs ρ => .ok (v :: vs) ρ)).bind fun vs ρ => ofO (((views ρ vs).bind (biD b)).map .d) ρ) Q := h
  rw [bind_assoc'] at h
  refine T_one R h fun vx x ρ2 H2 F2 R2 k h2 => ?_
  have h2 : Got X.sy W (okV X.sy σ) G F₀ σ H2 F2 (ofO (((views ρ2 [vx]).bind (biD b)).map .d) ρ2) Q := h2
  obtain ⟨r, e, q⟩ := h2.val R2
  obtain ⟨ds, e1, e2⟩ := Option.bind_eq_some_iff.mp e
  have pk := R2.views (.cons k .nil) e1
  cases pk with
  | cons k1 k2 =>
    cases k2
    exact ⟨F2, _, r, R2.fle, k1, e2, q⟩
theorem plain_list : ∀ {es : List Expr} {n : Nat}, plainEs es = true → es.length < 29 → ∀ {env : PySem.Env} {pos : Pos},
    ((backTo pos (starEach es env)).all (fun x => !x.1) && (backToKw pos (keywordEach [] env)).all (fun x => x.1.isSome) && decide (es.length + ([] : List Keyword).length + (if ([] : List Keyword).isEmpty then 0 else 1) < 30)) = true := by
  intro es n h hl env pos
  rw [star_all h]
  simp [keywordEach, backToKw]
  omega
theorem T_mt {m : Mt} {a : CE} {es : CEs} {σ : L2.St} {H : Hp} {Q : VK} (h : T X.sy Φ W (.mt m a es) σ H Q) :
    tBM X.K (tyN (mtTy m)) (rMt X.sy m) (T X.sy Φ W a) (TS' X.sy Φ W es) σ H Q := by
  obtain ⟨G, F₀, F, ρ, R, h⟩ := h
  refine ⟨G, F₀, F, ρ, R, (Got.bind (okV X.sy σ) h).imp fun x H1 ⟨F1, vx, ρ1, hh1, ff1, R1, k1, e1, h1⟩ => ?_⟩
  split at h1
  rotate_left
  · exact h1.elim
  rename_i hd
  obtain ⟨d, hv, hd⟩ := Option.map_eq_some_iff.mp hd
  have pk := R1.view k1 hv
  refine ⟨?_, ?_⟩
  · have hm : mtTy m = .list ∨ mtTy m = .str := by cases m <;> first | exact .inl rfl | exact .inr rfl
    rcases hm with hm | hm
    · rw [hm] at hd ⊢
      obtain ⟨l, rfl⟩ : ∃ l, d = .list l := by cases d <;> first | exact ⟨_, rfl⟩ | cases hd
      obtain ⟨p, ys, rfl, g1, _⟩ := pk.lstE R1.fle
      exact .inl ⟨rfl, ys, g1⟩
    · rw [hm] at hd ⊢
      obtain ⟨l, rfl⟩ : ∃ l, d = .str l := by cases d <;> first | exact ⟨_, rfl⟩ | cases hd
      have := pk.strE
      subst this
      rfl
  · refine ⟨G, F₀, F1, ρ1, R1, (Got.bind (okVs X.sy σ) h1).imp fun xs H2 ⟨F2, vs, ρ2, hh2, ff2, R2, k2, _, h2⟩ => ?_⟩
    obtain ⟨r, e, q⟩ := h2.val R2
    obtain ⟨dx, g1, g2⟩ := Option.bind_eq_some_iff.mp e
    obtain ⟨ds, g3, g4⟩ := Option.bind_eq_some_iff.mp g2
    exact ⟨F2, dx, ds, r, R2.fle, R2.view (k1.mono ff2) g1, R2.views k2 g3, g4, q⟩
theorem mt_rule (hu : X.A.units + 200 < cLine) (m : Mt) : PlainAttrs (tyN (mtTy m)) ∧ Slot (tyN (mtTy m)) (mtName m) (mtId m) ∧ typeOf (.builtin (mtId m)) = pure (.type "method_descriptor") ∧ MtR X (mtId m) (rMt X.sy m) := by
  cases m
  · exact ⟨PySem.F.plainAttrs_list, PySem.F.slot_list_index, PySem.F.type_list_index, m_index (W := W0) (by omega)⟩
  · exact ⟨PySem.F.plainAttrs_str, PySem.F.slot_str_join, PySem.F.type_str_join, m_join (W := W0)⟩
  · exact ⟨PySem.F.plainAttrs_str, PySem.F.slot_str_split, PySem.F.type_str_split, m_split (W := W0)⟩
  · exact ⟨PySem.F.plainAttrs_str, PySem.F.slot_str_partition, PySem.F.type_str_partition, m_partition (W := W0)⟩
  · exact ⟨PySem.F.plainAttrs_str, PySem.F.slot_str_count, PySem.F.type_str_count, m_count (W := W0)⟩
  · exact ⟨PySem.F.plainAttrs_str, PySem.F.slot_str_upper, PySem.F.type_str_upper, m_upper (W := W0)⟩
theorem blt_none (D : Dy Φ st X W) {x : Str} (h : x ∈ blts) : X.mg x = none := D.blt x h

mutual
theorem sE : ∀ (c : CE) {st : Stc} {X : Cx} {W : WX} {e : Expr}, Dy Φ st X W → chkE st c e = true → AllE Φ X W e c
  | .lit x, st, X, W, e, D, h => by
    unfold chkE at h
    split at h
    · rename_i c j pos
      obtain ⟨v, _, h2, h3⟩ := lit_v h
      refine .gen (pe_imp (h3 j pos) fun σ H Q w => ?_) (fun _ => rfl) rfl
      obtain ⟨G, F₀, F, ρ, R, w⟩ := w
      exact w.ret R (h2 _ _)
    · cases h
  | .glob x d, st, X, W, e, D, h => by
    unfold chkE at h
    split at h
    · rename_i y pos
      simp only [Bool.and_eq_true, decide_eq_true_eq] at h
      obtain ⟨⟨rfl, h1⟩, h2⟩ := h
      split at h2
      · rename_i c hc
        obtain ⟨v, e1, h3, _⟩ := lit_v (X := X) h2
        obtain ⟨u, v', g1, g2, g3⟩ := D.con _ _ hc
        rw [e1] at g3
        cases g3
        obtain ⟨g4, g5⟩ := D.gl h1
        refine .gen (pe_imp (pe_glob g4 g1 g2 g5) fun σ H Q w => ?_) (fun _ => rfl) rfl
        obtain ⟨G, F₀, F, ρ, R, w⟩ := w
        exact w.ret R (h3 _ _)
      · cases h2
    · cases h
  | .var i, st, X, W, e, D, h => by
    unfold chkE at h
    split at h
    · rename_i y pos
      obtain ⟨h1, h2, h3, h4⟩ := D.name h
      refine .gen (pe_imp (pe_var h1 h2 h3 h4) fun σ H Q w => ?_) (fun _ => rfl) rfl
      obtain ⟨G, F₀, F, ρ, R, w⟩ := w
      unfold ev at w
      cases hs : ρ[i]? with
      | none => rw [hs] at w; exact w.elim
      | some s =>
        have z := R.slot i s hs
        rw [hs] at w
        cases s with
        | unb => exact w.elim
        | d x =>
          obtain ⟨u, e1, r⟩ := z
          exact ⟨u, e1, w.ret R r⟩
        | lst ds =>
          obtain ⟨p, xs, e1, _⟩ := z
          exact ⟨_, e1, w.ret R e1⟩
        | dic ds =>
          obtain ⟨p, xs, e1, _⟩ := z
          exact ⟨_, e1, w.ret R e1⟩
        | obj _ _ => exact z.elim
    · cases h
  | .bin op a b, st, X, W, e, D, h => by
    unfold chkE at h
    split at h
    · rename_i l o r pos
      simp only [Bool.and_eq_true] at h
      obtain ⟨⟨h1, h2⟩, h3⟩ := h
      refine .gen (pe_imp (pe_op (op_rule h1) (sE a D h2).1 (sE b D h3).1) fun σ H Q w => ?_) (fun _ => rfl) rfl
      obtain ⟨G, F₀, F, ρ, R, w⟩ := w
      exact T_two R w
    · cases h
  | .neg a, st, X, W, e, D, h => by
    unfold chkE at h
    split at h
    · rename_i x pos
      refine .gen (pe_imp (pe_un un_neg (sE a D h).1) fun σ H Q w => ?_) (fun _ => rfl) rfl
      obtain ⟨G, F₀, F, ρ, R, w⟩ := w
      refine T_one R w fun vx x ρ2 H2 F2 R2 k h2 => ?_
      obtain ⟨r, e, q⟩ := h2.val R2
      obtain ⟨d, e1, e2⟩ := Option.bind_eq_some_iff.mp e
      unfold negD at e2
      split at e2 <;> cases e2
      exact ⟨_, (R2.view k e1).intE, q _ H2 F2 (.refl R2.fle) (.int _)⟩
    · cases h
  | .not a, st, X, W, e, D, h => by
    unfold chkE at h
    split at h
    · rename_i x pos
      obtain ⟨g1, g2, _⟩ := sE a D h
      refine .no (pe_imp (pe_notT g1) fun σ H Q w => ?_) (pt_imp (pt_not g2) fun σ H Q w => ?_) rfl
      · obtain ⟨G, F₀, F, ρ, R, w⟩ := w
        refine T_one R w fun vx x ρ2 H2 F2 R2 k h2 => ?_
        obtain ⟨t, tv, _, h3⟩ := h2.tru R2 k
        exact ⟨t, tv, h3.ret R2 (show Rp X.sy F2 (.bl (!t)) (.bool (!t)) from .bl _)⟩
      · obtain ⟨G, F₀, F, ρ, R, w⟩ := w
        have w : Got X.sy W (fun _ _ _ (a b : Bool) => a = b) G F₀ σ H F (((ev Φ a ρ).bind fun x ρ => (truE x ρ).bind fun b ρ => .ok (.d (.bool !b)) ρ).bind truE) Q := w
        simp only [bind_assoc'] at w
        refine TB_then R w fun t ρ2 H2 F2 R2 h2 => ?_
        exact h2.ret R2 rfl
    · cases h
  | .and a b, st, X, W, e, D, h => by
    have red : ∀ {σ : L2.St} {H : Hp} {Q : VK}, T X.sy Φ W (.and a b) σ H Q → tAndT X.K (T X.sy Φ W a) (T X.sy Φ W b) σ H Q := by
      intro σ H Q w
      obtain ⟨G, F₀, F, ρ, R, w⟩ := w
      refine T_one R w fun vx x ρ2 H2 F2 R2 k h2 => ?_
      obtain ⟨t, tv, _, h3⟩ := h2.tru R2 k
      refine ⟨t, tv, ?_⟩
      cases t with
      | true => exact ⟨G, F₀, F2, ρ2, R2, h3⟩
      | false => exact h3.ret R2 k
    unfold chkE at h
    split at h
    · rename_i x y pos
      rw [Bool.and_eq_true] at h
      obtain ⟨g1, g2, _⟩ := sE a D h.1
      obtain ⟨g4, g5, _⟩ := sE b D h.2
      have hp : PW X (.BoolOp .And [x, y] pos) (TB X.sy Φ W (.and a b)) := pw_imp (pw_and g2 (pw_and1 g5)) fun σ H Q w => TB_and w
      exact ⟨pe_imp (pe_andT g1 (pe_one g4)) fun σ H Q w => red w, hp.pt, fun _ => hp⟩
    · rename_i x y z r pos
      rw [Bool.and_eq_true] at h
      obtain ⟨g1, g2, _⟩ := sE a D h.1
      obtain ⟨g4, g5, g6⟩ := sE b D h.2
      have hp : PW X (.BoolOp .And (x :: y :: z :: r) pos) (TB X.sy Φ W (.and a b)) := pw_imp (pw_and g2 (g6 rfl)) fun σ H Q w => TB_and w
      exact ⟨pe_imp (pe_andT g1 g4) fun σ H Q w => red w, hp.pt, fun _ => hp⟩
    · cases h
  | .or a b, st, X, W, e, D, h => by
    have red : ∀ {σ : L2.St} {H : Hp} {Q : VK}, T X.sy Φ W (.or a b) σ H Q → tOrT X.K (T X.sy Φ W a) (T X.sy Φ W b) σ H Q := by
      intro σ H Q w
      obtain ⟨G, F₀, F, ρ, R, w⟩ := w
      refine T_one R w fun vx x ρ2 H2 F2 R2 k h2 => ?_
      obtain ⟨t, tv, _, h3⟩ := h2.tru R2 k
      refine ⟨t, tv, ?_⟩
      cases t with
      | false => exact ⟨G, F₀, F2, ρ2, R2, h3⟩
      | true => exact h3.ret R2 k
    unfold chkE at h
    split at h
    · rename_i x y pos
      rw [Bool.and_eq_true] at h
      obtain ⟨g1, g2, _⟩ := sE a D h.1
      obtain ⟨g4, g5, _⟩ := sE b D h.2
      have hp : PW X (.BoolOp .Or [x, y] pos) (TB X.sy Φ W (.or a b)) := pw_imp (pw_or g2 (pw_or1 g5)) fun σ H Q w => TB_or w
      exact ⟨pe_imp (pe_orT g1 (pe_one g4)) fun σ H Q w => red w, hp.pt, fun _ => hp⟩
    · rename_i x y z r pos
      rw [Bool.and_eq_true] at h
      obtain ⟨g1, g2, _⟩ := sE a D h.1
      obtain ⟨g4, g5, g6⟩ := sE b D h.2
      have hp : PW X (.BoolOp .Or (x :: y :: z :: r) pos) (TB X.sy Φ W (.or a b)) := pw_imp (pw_or g2 (g6 rfl)) fun σ H Q w => TB_or w
      exact ⟨pe_imp (pe_orT g1 g4) fun σ H Q w => red w, hp.pt, fun _ => hp⟩
    · cases h
  | .cmp op a b, st, X, W, e, D, h => by
    unfold chkE at h
    split at h
    · rename_i l o r pos
      simp only [Bool.and_eq_true] at h
      obtain ⟨⟨⟨h1, hp⟩, h2⟩, h3⟩ := h
      have r := cmp_rule D.room h1
      refine .no (pe_imp (pe_cmpR r (sE a D h2).1 (sE b D h3).1 (nomarks hp)) fun σ H Q w => ?_) (pt_imp (pt_cmpR r (sE a D h2).1 (sE b D h3).1 (nomarks hp)) fun σ H Q w => ?_) rfl
      · obtain ⟨G, F₀, F, ρ, R, w⟩ := w
        exact T_cmp R w
      · obtain ⟨G, F₀, F, ρ, R, w⟩ := w
        exact T_cmpG R w fun t ρ2 H2 F2 R2 h2 => ⟨t, rfl, h2.ret R2 rfl⟩
    · cases h
  | .chain op op' a b c, st, X, W, e, D, h => by
    unfold chkE at h
    split at h
    · rename_i l o o' m r pos
      simp only [Bool.and_eq_true] at h
      obtain ⟨⟨⟨⟨⟨h1, h1'⟩, hp⟩, h2⟩, h3⟩, h4⟩ := h
      have r := cmp_rule D.room h1
      have r' := cmp_rule D.room h1'
      refine .no (pe_imp (pe_chain r r' (sE a D h2).1 (sE b D h3).1 (sE c D h4).1 (nomarks hp)) fun σ H Q w => ?_) (pt_imp (pt_chain r r' (sE a D h2).1 (sE b D h3).1 (sE c D h4).1 (nomarks hp)) fun σ H Q w => ?_) rfl
      · obtain ⟨G, F₀, F, ρ, R, w⟩ := w
        rw [← bind_ret (ev Φ _ ρ)] at w
        exact T_chainG R w fun t ρ2 H2 F2 R2 h2 => h2.ret R2 (show Rp X.sy F2 (.bl t) (.bool t) from .bl t)
      · obtain ⟨G, F₀, F, ρ, R, w⟩ := w
        exact T_chainG R w fun t ρ2 H2 F2 R2 h2 => ⟨t, rfl, h2.ret R2 rfl⟩
    · cases h
  | .ife c a b, st, X, W, e, D, h => by
    unfold chkE at h
    split at h
    · rename_i x y z pos
      simp only [Bool.and_eq_true] at h
      obtain ⟨⟨h1, h2⟩, h3⟩ := h
      obtain ⟨_, gc, _⟩ := sE c D h1
      obtain ⟨ga, ga', _⟩ := sE a D h2
      obtain ⟨gb, gb', _⟩ := sE b D h3
      refine .no (pe_imp (pe_ifExp gc ga gb) fun σ H Q w => ?_) (pt_imp (pt_ife gc ga' gb') fun σ H Q w => ?_) rfl
      · obtain ⟨G, F₀, F, ρ, R, w⟩ := w
        refine TB_then R w fun t ρ2 H2 F2 R2 h2 => ?_
        cases t with
        | true => exact ⟨G, F₀, F2, ρ2, R2, h2⟩
        | false => exact ⟨G, F₀, F2, ρ2, R2, h2⟩
      · obtain ⟨G, F₀, F, ρ, R, w⟩ := w
        have w : Got X.sy W (fun _ _ _ (a b : Bool) => a = b) G F₀ σ H F (((ev Φ c ρ).bind fun x ρ => (truE x ρ).bind fun t ρ => if t then ev Φ a ρ else ev Φ b ρ).bind truE) Q := w
        simp only [bind_assoc'] at w
        refine TB_then R w fun t ρ2 H2 F2 R2 h2 => ?_
        cases t with
        | true => exact ⟨G, F₀, F2, ρ2, R2, h2⟩
        | false => exact ⟨G, F₀, F2, ρ2, R2, h2⟩
    · cases h
  | .call f es, st, X, W, e, D, h => by
    unfold chkE at h
    split at h
    · rename_i x p y ys pos
      simp only [Bool.and_eq_true, decide_eq_true_eq] at h
      obtain ⟨⟨h1, h2⟩, h3⟩ := h
      obtain ⟨k, g, fd, ps, g1, g2, g3, g4, g5⟩ := D.fns _ _ _ h1
      obtain ⟨g6, g7⟩ := D.gl h2
      obtain ⟨pl, ln⟩ := chkEs_plain h3
      have pl1 : plainE y = true ∧ plainEs ys = true := by simpa [plainEs] using pl
      refine .gen (pe_imp (pe_callV g1 g2 g6 g3 g4 g5 D.takes (sA es D h3) g7 (star_cons pl1.1) (star_none pl1.2)) fun σ H Q w => ?_) (fun _ => rfl) rfl
      obtain ⟨G, F₀, F, ρ, R, w⟩ := w
      exact T_call R (fun e1 k => by rw [← k.length, evs_len es _ _ _ e1]) w
    · cases h
  | .bi b es, st, X, W, e, D, h => by
    have named : ∀ {x : Str} {p pos : Pos} {y : Expr} {ys : List Expr}, biName b = some x → gl st x = true → chkEs st es (y :: ys) = true → PE X (.Call (.Name x p) (y :: ys) [] pos) (T X.sy Φ W (.bi b es)) := by
      intro x p pos y ys hb hg hs
      obtain ⟨r, hn, hin⟩ := bi_rule D.calm hb
      obtain ⟨g6, g7⟩ := D.gl hg
      obtain ⟨pl, ln⟩ := chkEs_plain hs
      have pl1 : plainE y = true ∧ plainEs ys = true := by simpa [plainEs] using pl
      rcases r with ⟨id, g1, g2⟩ | ⟨ty, g1, g2⟩
      · exact pe_imp (pe_callB g2 g6 (D.blt _ hin) g1 (sA es D hs) hn g7 (star_cons pl1.1) (star_none pl1.2)) fun σ H Q w => T_bi w
      · exact pe_imp (pe_callTy g2 g6 (D.blt _ hin) g1 (sA es D hs) hn g7 (star_cons pl1.1) (star_none pl1.2)) fun σ H Q w => T_bi w
    have sets : ∀ {y : Expr}, chkEs st es [y] = true → ∃ a, es = .cons a .nil ∧ plainE y = true ∧ PE X y (T X.sy Φ W a) := by
      intro y hs
      match es, hs with
      | .cons a es', hs =>
        obtain ⟨a', e1, h1, h2⟩ := one_arg hs
        cases e1
        exact ⟨a, rfl, h1, (sE a D h2).1⟩
      | .nil, hs => simp [chkEs] at hs
    unfold chkE at h
    split at h
    · split at h
      · rename_i x p y p2 z q pos
        simp only [Bool.and_eq_true, decide_eq_true_eq] at h
        obtain ⟨⟨⟨⟨rfl, rfl⟩, h1⟩, h2⟩, h3⟩ := h
        obtain ⟨a, rfl, hp, ha⟩ := sets h3
        refine .gen (pe_imp (pe_lenSet (W := W0) D.calm (D.gl h1).1 (D.blt _ (by decide)) (D.gl h2).1 (D.blt _ (by decide)) ha (star_cons hp)) fun σ H Q w => ?_) (fun _ => rfl) rfl
        obtain ⟨G, F₀, F, ρ, R, q⟩ := T_bi1 w
        exact ⟨G, F₀, F, ρ, R, q.imp fun x H1 ⟨F, d, r, s, k, e, q⟩ => ⟨F, [d], r, s, .cons k .nil, e, q⟩⟩
      · cases h
    · split at h
      · rename_i x p y p2 z q pos
        simp only [Bool.and_eq_true, decide_eq_true_eq] at h
        obtain ⟨⟨⟨⟨rfl, rfl⟩, h1⟩, h2⟩, h3⟩ := h
        obtain ⟨a, rfl, hp, ha⟩ := sets h3
        refine .gen (pe_imp (pe_sortedSet (W := W0) D.calm (D.gl h1).1 (D.blt _ (by decide)) (D.gl h2).1 (D.blt _ (by decide)) ha (star_cons hp)) fun σ H Q w => ?_) (fun _ => rfl) rfl
        obtain ⟨G, F₀, F, ρ, R, q⟩ := T_bi1 w
        exact ⟨G, F₀, F, ρ, R, q.imp fun x H1 ⟨F, d, r, s, k, e, q⟩ => ⟨F, [d], r, s, .cons k .nil, e, q⟩⟩
      · cases h
    · split at h
      · rename_i x p y pos
        simp only [Bool.and_eq_true, decide_eq_true_eq] at h
        exact .gen (named h.1.1 h.1.2 h.2) (fun _ => rfl) rfl
      · rename_i x p y z pos
        rw [Bool.or_eq_true] at h
        rcases h with h | h
        · simp only [Bool.and_eq_true, decide_eq_true_eq] at h
          exact .gen (named h.1.1 h.1.2 h.2) (fun _ => rfl) rfl
        · simp only [Bool.and_eq_true, decide_eq_true_eq] at h
          obtain ⟨⟨⟨rfl, h1⟩, h2⟩, h3⟩ := h
          split at h2
          · rename_i t p3
            simp only [Bool.and_eq_true, decide_eq_true_eq] at h2
            obtain ⟨h4, h5⟩ := h2
            obtain ⟨a, rfl, hp, ha⟩ := sets h3
            obtain ⟨n, ts, rfl, g1, g2, g3, g4⟩ := is_rule (X := X) h4
            obtain ⟨g6, g7⟩ := D.gl h5
            have hn : Str.ofString n ≠ "__name__" := fun e => by
              rw [e] at g4
              exact absurd g4 (by decide)
            have pt : PE X (.Name (Str.ofString n) p3) (tC (.ty n)) := pe_bltn g6 (D.blt _ g4) g1 rfl hn g7
            refine .gen (pe_imp (pe_callB g3 (D.gl h1).1 (D.blt _ (by decide)) PyProof.Rows.boot_isinstance (pa_cons ha (pa_cons pt pa_nil rfl) (star_cons hp)) (by decide) (by decide) (star_cons hp) rfl) fun σ H Q w => ?_) (fun _ => rfl) rfl
            obtain ⟨G, F₀, F, ρ, R, q⟩ := T_bi1 w
            refine ⟨G, F₀, F, ρ, R, q.imp fun x H1 ⟨F, d, r, s, k, e, q⟩ => ?_⟩
            rw [g2] at e
            exact ⟨F, d, x, r, s, rfl, k, e, fun z rz => q z H1 F (.refl s) rz⟩
          · cases h2
      · cases h
  | .get2 a k y, st, X, W, e, D, h => by
    unfold chkE at h
    split at h
    · rename_i o m ap x z cp
      simp only [Bool.and_eq_true, decide_eq_true_eq] at h
      obtain ⟨⟨⟨⟨⟨⟨⟨rfl, h1⟩, h2⟩, h3⟩, h4⟩, h5⟩, h6⟩, h7⟩ := h
      have pl : plainEs [x, z] = true := by simp [plainEs, h3, h4]
      refine .gen (pe_get2 D.room (sE a D h5).1 (sE k D h6).1 (sE y D h7).1 ⟨bare_base h1, plain_list (n := 0) pl (by simp), h2, ?_⟩) (fun _ => rfl) rfl
      rw [star_cons h3, star_cons h4]
      rfl
    · cases h
  | .mt m a es, st, X, W, e, D, h => by
    unfold chkE at h
    split at h
    · rename_i o x ap args cp
      simp only [Bool.and_eq_true, decide_eq_true_eq] at h
      obtain ⟨⟨⟨⟨⟨rfl, h1⟩, h2⟩, h3⟩, h4⟩, h5⟩ := h
      obtain ⟨g1, g2, g3, g4⟩ := mt_rule D.room m
      obtain ⟨pl, ln⟩ := chkEs_plain h5
      cases args with
      | nil =>
        have e1 : es = .nil := by
          cases es with
          | nil => rfl
          | cons b bs => simp [chkEs] at h5
        subst e1
        refine .gen (pe_imp (pe_bm0 g1 g2 g3 g4 (sE a D h4).1 (bare_base h1) h2) fun σ H Q w => ?_) (fun _ => rfl) rfl
        obtain ⟨G, F₀, F, ρ, R, w⟩ := T_mt w
        refine ⟨G, F₀, F, ρ, R, w.imp fun x H1 ⟨ty, G, F₀, F, ρ, R, w⟩ => ⟨ty, ?_⟩⟩
        exact w.ret R .nil
      | cons y ys =>
        have pl1 : plainE y = true ∧ plainEs ys = true := by simpa [plainEs] using pl
        refine .gen (pe_imp (pe_bm g1 g2 g3 g4 (sE a D h4).1 (sA es D h5) (bare_base h1) (plain_list (n := 0) pl h3) h2 (star_cons pl1.1) (star_none pl1.2)) fun σ H Q w => T_mt w) (fun _ => rfl) rfl
    · cases h
  | .idx a i, st, X, W, e, D, h => by
    unfold chkE at h
    split at h
    · rename_i x y pos
      simp only [Bool.and_eq_true] at h
      obtain ⟨⟨h1, h2⟩, h3⟩ := h
      refine .gen (pe_imp (x_ix (W := W0) (by have := D.room; omega) (sE a D h2).1 (sE i D h3).1 (plainIx h1)) fun σ H Q w => ?_) (fun _ => rfl) rfl
      obtain ⟨G, F₀, F, ρ, R, w⟩ := w
      exact T_two R w
    · cases h
  | .slice a lo hi, st, X, W, e, D, h => by
    unfold chkE at h
    split at h
    · rename_i x l u p2 pos
      simp only [Bool.and_eq_true] at h
      obtain ⟨⟨h1, h2⟩, h3⟩ := h
      have pl : L2.PO X l (tPt X.sy Φ W lo) := by
        refine po_of ?_
        split at h2
        · exact .inl ⟨rfl, h2⟩
        · rw [Bool.and_eq_true, Bool.not_eq_true'] at h2
          exact .inr ⟨_, rfl, h2.1, (sE lo D h2.2).1⟩
      have pu : L2.PO X u (tPt X.sy Φ W hi) := by
        refine po_of ?_
        split at h3
        · exact .inl ⟨rfl, h3⟩
        · rw [Bool.and_eq_true, Bool.not_eq_true'] at h3
          exact .inr ⟨_, rfl, h3.1, (sE hi D h3.2).1⟩
      exact .gen (pe_imp (pe_slice (sl_all (W := W0)) (sE a D h1).1 pl pu) fun σ H Q w => T_slice w) (fun _ => rfl) rfl
    · cases h
  | .tuple es, st, X, W, e, D, h => by
    unfold chkE at h
    split at h
    · rename_i xs k pos
      simp only [Bool.and_eq_true, decide_eq_true_eq] at h
      obtain ⟨pl, ln⟩ := chkEs_plain h.2
      exact .gen (pe_imp (pe_tup (sA es D h.2)) fun σ H Q w => T_tuple (by omega) w) (fun _ => rfl) rfl
    · cases h
  | .fr c, st, X, W, e, D, h => by
    unfold chkE at h
    obtain ⟨g1, g2, g3⟩ := sO c D h
    exact .gen (pe_imp g1 fun σ H Q w => T_fr w) g2 g3
theorem sA : ∀ (es : CEs) {st : Stc} {X : Cx} {W : WX} {xs : List Expr}, Dy Φ st X W → chkEs st es xs = true → PA X xs (TS' X.sy Φ W es)
  | .nil, st, X, W, xs, D, h => by
    unfold chkEs at h
    split at h
    · refine pa_imp pa_nil fun σ H Q w => ?_
      obtain ⟨G, F₀, F, ρ, R, w⟩ := w
      exact w.ret R .nil
    · cases h
  | .cons e es, st, X, W, xs, D, h => by
    unfold chkEs at h
    split at h
    · rename_i y ys
      simp only [Bool.and_eq_true] at h
      obtain ⟨⟨h1, h2⟩, h3⟩ := h
      refine pa_imp (pa_cons (sE e D h2).1 (sA es D h3) (star_cons h1)) fun σ H Q w => ?_
      obtain ⟨G, F₀, F, ρ, R, w⟩ := w
      refine ⟨G, F₀, F, ρ, R, (Got.bind (okV X.sy σ) w).imp fun x H1 ⟨F1, vx, ρ1, hh1, ff1, R1, k1, e1, h1⟩ => ?_⟩
      refine ⟨G, F₀, F1, ρ1, R1, (Got.bind (okVs X.sy σ) h1).imp fun xs H2 ⟨F2, vs, ρ2, hh2, ff2, R2, k2, e2, h2⟩ => ?_⟩
      exact h2.ret R2 (.cons (k1.mono ff2) k2)
    · cases h
theorem sO : ∀ (c : CO) {st : Stc} {X : Cx} {W : WX} {e : Expr}, Dy Φ st X W → chkO st c e = true →
    PE X e (TO' X.sy Φ W c) ∧ (∀ whole, isTrue e X.env whole = (do let v ← whole; standAt e.pos; holding [v] (truthy v))) ∧ isBo e = false
  | .list es, st, X, W, e, D, h => by
    unfold chkO at h
    split at h
    · rename_i xs pos
      simp only [Bool.and_eq_true, decide_eq_true_eq] at h
      obtain ⟨pl, ln⟩ := chkEs_plain h.2
      exact ⟨pe_imp (pe_lst (sA es D h.2)) fun σ H Q w => T_list (by omega) w, fun _ => rfl, rfl⟩
    · cases h
  | .listOf a, st, X, W, e, D, h => by
    unfold chkO at h
    split at h
    · rename_i x p y pos
      simp only [Bool.and_eq_true, decide_eq_true_eq] at h
      obtain ⟨⟨⟨rfl, h1⟩, h2⟩, h3⟩ := h
      obtain ⟨g6, g7⟩ := D.gl h1
      exact ⟨pe_imp (pe_callTy (c_list (W := W0)) g6 (D.blt _ (by decide)) PyProof.Rows.boot_list (pa_cons (sE a D h3).1 pa_nil (star_cons h2)) (by decide) g7 (star_cons h2) rfl) fun σ H Q w => T_listOf w, fun _ => rfl, rfl⟩
    · cases h
  | .dict0, st, X, W, e, D, h => by
    unfold chkO at h
    split at h
    · exact ⟨pe_imp pe_dnewK fun σ H Q w => T_dict0 w, fun _ => rfl, rfl⟩
    · cases h
  | .dict1 k x, st, X, W, e, D, h => by
    unfold chkO at h
    split at h
    · simp only [Bool.and_eq_true] at h
      exact ⟨pe_imp (pe_dict1 (W := W0) (by have := D.room; omega) (sE k D h.1).1 (sE x D h.2).1) fun σ H Q w => T_dict1 w, fun _ => rfl, rfl⟩
    · cases h
  | .comp elt tg it cond vs, st, X, W, e, D, h => by
    unfold chkO at h
    split at h
    · rename_i x t i ifs as scope pos
      simp only [Bool.and_eq_true, decide_eq_true_eq] at h
      obtain ⟨⟨⟨⟨⟨⟨rfl, h1⟩, h2⟩, h3⟩, h4⟩, h5⟩, h6⟩ := h
      have ok : BlkOk X.N X.env.scope scope (ownOf st.N vs) := by
        rw [D.N, D.sc]
        exact blkOk_by h1
      obtain ⟨hi, hs⟩ := sI it false D h3
      have hg : ∀ (s : Shared) (H : Hp) (C : Addr) (cl : List (Str × Addr)) (fp : List Addr), PG (X.blk s H scope (compEnvC scope cl C X.env) fp) t (gOf X.K tg) := fun s H C cl fp => pg_of (D.blk s H scope C cl fp) h4
      have he : ∀ (s : Shared) (H : Hp) (C : Addr) (cl : List (Str × Addr)) (fp : List Addr), PE (X.blk s H scope (compEnvC scope cl C X.env) fp) x (T X.sy Φ W0 elt) := fun s H C cl fp => (sE elt (D.blk s H scope C cl fp) h5).1
      refine ⟨?_, fun _ => rfl, rfl⟩
      split at h6
      · have ec := isTrueL_eq h6
        subst ec
        refine pe_imp (pe_unl <| pe_lc D.calm (by rw [D.N]; exact D.nd) hi ok hg (fun s H C cl fp => pts_nil) he hs) fun σ H Q w => ?_
        rw [own_map]
        exact T_compX (tt := tYes) h2 (fun σ H Q w => TB_yes w) w
      · rename_i ce
        have hc : ∀ (s : Shared) (H : Hp) (C : Addr) (cl : List (Str × Addr)) (fp : List Addr), PTs (X.blk s H scope (compEnvC scope cl C X.env) fp) [ce] (TB X.sy Φ W0 cond) := fun s H C cl fp => pts_one (sE cond (D.blk s H scope C cl fp) h6).2.1
        refine pe_imp (pe_unl <| pe_lc D.calm (by rw [D.N]; exact D.nd) hi ok hg hc he hs) fun σ H Q w => ?_
        rw [own_map]
        exact T_compX h2 (fun σ H Q w => w) w
      · cases h6
    · cases h
theorem sI : ∀ (it : It) (fz : Bool) {st : Stc} {X : Cx} {W : WX} {tg e : Expr}, Dy Φ st X W → chkI st it tg e = true → PI X tg e (TIX X Φ W fz it) ∧ ∀ x, foldedSetIterable e X.env x = pure x
  | .seq a, fz, st, X, W, tg, e, D, h => by
    unfold chkI at h
    rw [Bool.and_eq_true] at h
    exact ⟨pi_imp (pi_seq (sE a D h.2).1) fun σ H Q w => I_seq w, noSetIt h.1⟩
  | .range1 a, fz, st, X, W, tg, e, D, h => by
    unfold chkI at h
    split at h
    · rename_i x p y pos
      simp only [Bool.and_eq_true, decide_eq_true_eq] at h
      obtain ⟨⟨⟨rfl, h1⟩, h2⟩, h3⟩ := h
      exact ⟨pi_imp (pi_range1 (D.gl h1).1 (D.blt _ (by decide)) (pa_cons (sE a D h3).1 pa_nil (star_cons h2)) (star_cons h2)) fun σ H Q w => I_range1 w, fun _ => rfl⟩
    · cases h
  | .range2 a b, fz, st, X, W, tg, e, D, h => by
    unfold chkI at h
    split at h
    · rename_i x p y z pos
      simp only [Bool.and_eq_true, decide_eq_true_eq] at h
      obtain ⟨⟨⟨⟨⟨rfl, h1⟩, h2⟩, h2'⟩, h3⟩, h3'⟩ := h
      refine ⟨pi_imp (pi_range2 (D.gl h1).1 (D.blt _ (by decide)) (pa_cons (sE a D h3).1 (pa_cons (sE b D h3').1 pa_nil (star_cons h2')) (star_cons h2)) ?_ (star_cons h2')) fun σ H Q w => I_range2 w, fun _ => rfl⟩
      rw [star_cons h2, star_cons h2']
      rfl
    · cases h
  | .enum a, fz, st, X, W, tg, e, D, h => by
    unfold chkI at h
    rw [Bool.and_eq_true] at h
    obtain ⟨ht, h⟩ := h
    split at h
    · rename_i x p y pos
      simp only [Bool.and_eq_true, decide_eq_true_eq] at h
      obtain ⟨⟨⟨rfl, h1⟩, h2⟩, h3⟩ := h
      cases tg <;> first | cases ht | skip
      exact ⟨pi_imp (pi_enum (D.gl h1).1 (D.blt _ (by decide)) (pa_cons (sE a D h3).1 pa_nil (star_cons h2)) (star_cons h2)) fun σ H Q w => I_enum w, fun _ => rfl⟩
    · cases h
  | .zip a b, fz, st, X, W, tg, e, D, h => by
    unfold chkI at h
    rw [Bool.and_eq_true] at h
    obtain ⟨ht, h⟩ := h
    split at h
    · rename_i x p y z pos
      simp only [Bool.and_eq_true, decide_eq_true_eq] at h
      obtain ⟨⟨⟨⟨⟨rfl, h1⟩, h2⟩, h2'⟩, h3⟩, h3'⟩ := h
      cases tg <;> first | cases ht | skip
      exact ⟨pi_imp (RZ.pi_zipA (D.gl h1).1 (D.blt _ (by decide)) (pa_cons (sE a D h3).1 (pa_cons (sE b D h3').1 pa_nil (star_cons h2')) (star_cons h2)) (star_cons h2) (star_none (by simp [plainEs, h2']))) fun σ H Q w => I_zip w, fun _ => rfl⟩
    · cases h
  | .keys a, fz, st, X, W, tg, e, D, h => by
    unfold chkI at h
    rw [Bool.and_eq_true] at h
    exact ⟨pi_keysL (sE a D h.2).1, noSetIt h.1⟩
  | .rev a, fz, st, X, W, tg, e, D, h => by
    unfold chkI at h
    split at h
    · rename_i x p y pos
      simp only [Bool.and_eq_true, decide_eq_true_eq] at h
      obtain ⟨⟨⟨rfl, h1⟩, h2⟩, h3⟩ := h
      exact ⟨pi_imp (RT.pi_revA (D.gl h1).1 (D.blt _ (by decide)) (sE a D h3).1 (star_cons h2)) fun σ H Q w => I_rev w, fun _ => rfl⟩
    · cases h
end
/-- .. as what is stored under a name -/
theorem lc_ok {elt cond : CE} {tg : Tg} {it : It} {vs : List Nat} {x t i : Expr} {ifs : List Expr} {as : Int} {scope : Scope} {pos : Pos} (D : Dy Φ st X W) (h : chkO st (.comp elt tg it cond vs) (.ListComp x [⟨t, i, ifs, as⟩] scope pos) = true) :
    as = 0 ∧ LcOk Φ X W x t i ifs scope (.comp elt tg it cond vs) := by
  unfold chkO at h
  simp only [Bool.and_eq_true, decide_eq_true_eq] at h
  obtain ⟨⟨⟨⟨⟨⟨rfl, h1⟩, h2⟩, h3⟩, h4⟩, h5⟩, h6⟩ := h
  have ok : BlkOk X.N X.env.scope scope (ownOf st.N vs) := by
    rw [D.N, D.sc]
    exact blkOk_by h1
  obtain ⟨hi, hs⟩ := sI it false D h3
  have hg : ∀ (s : Shared) (H : Hp) (C : Addr) (cl : List (Str × Addr)) (fp : List Addr), PG (X.blk s H scope (compEnvC scope cl C X.env) fp) t (gOf X.K tg) := fun s H C cl fp => pg_of (D.blk s H scope C cl fp) h4
  have he : ∀ (s : Shared) (H : Hp) (C : Addr) (cl : List (Str × Addr)) (fp : List Addr), PE (X.blk s H scope (compEnvC scope cl C X.env) fp) x (T X.sy Φ W0 elt) := fun s H C cl fp => (sE elt (D.blk s H scope C cl fp) h5).1
  refine ⟨rfl, ?_⟩
  split at h6
  · have ec := isTrueL_eq h6
    subst ec
    refine ⟨⟨_, _, _, tYes, _, hi, ok, hg, fun s H C cl fp => pts_nil, he, hs, fun σ H Q w => ?_⟩⟩
    rw [own_map]
    exact T_compX (tt := tYes) h2 (fun σ H Q w => TB_yes w) w
  · rename_i ce
    have hc : ∀ (s : Shared) (H : Hp) (C : Addr) (cl : List (Str × Addr)) (fp : List Addr), PTs (X.blk s H scope (compEnvC scope cl C X.env) fp) [ce] (TB X.sy Φ W0 cond) := fun s H C cl fp => pts_one (sE cond (D.blk s H scope C cl fp) h6).2.1
    refine ⟨⟨_, _, _, _, _, hi, ok, hg, hc, he, hs, fun σ H Q w => ?_⟩⟩
    rw [own_map]
    exact T_compX h2 (fun σ H Q w => w) w
  · cases h6
end
end VI
set_option Elab.async false
set_option linter.all false
set_option autoImplicit false
set_option maxRecDepth 20000
/-! Statements. -/
namespace VI
open PySem PySem.Spec PyProof.Rows L2

/-! ### the checker -/
def notComp : Expr → Bool
  | .ListComp .. => false
  | .SetComp .. => false
  | .DictComp .. => false
  | _ => true
mutual
def chkS (st : Stc) : CS → Stmt → Bool
  | .set i e, s => match s with
    | .Assign [.Name x _] v _ => chkStore st i x && notComp v && chkE st e v
    | _ => false
  | .own i c, s => match s with
    | .Assign [.Name x _] v _ => chkStore st i x && chkO st c v
    | _ => false
  | .unpack is e, s => match s with
    | .Assign [.Tuple es _ _] v _ => chkTgs st is es && notComp v && !isTupE v && chkE st e v
    | _ => false
  | .par is es, s => match s with
    | .Assign [.Tuple [.Name x px, .Name y py] _ _] (.Tuple [a, b] _ _) _ => (match is with
      | [i, j] => decide (i ≠ j) && decide (x ≠ y) && decide (st.N[i]? = some x) && decide (st.N[j]? = some y) && isLoc (kd st x) && isLoc (kd st y) && decide (py.line = px.line) &&
          !([a, b].all (foldedForSure 8)) && !([a, b].all (constantsAlone 8)) && chkEs st es [a, b]
      | _ => false)
    | _ => false
  | .put i k e, s => match s with
    | .Assign [.Subscript (.Name x _) y _] v _ => chkName st i x && plainE y && notComp v && chkE st k y && chkE st e v
    | _ => false
  | .append i e, s => match s with
    | .Expr (.Call (.Attribute (.Name x _) m ap) [y] [] cp) _ => decide (m = "append") && chkName st i x && (ap.endLine == cp.line) && plainE y && chkE st e y
    | _ => false
  | .insert i k e, s => match s with
    | .Expr (.Call (.Attribute (.Name x _) m ap) [y, z] [] cp) _ => decide (m = "insert") && chkName st i x && (ap.endLine == cp.line) && plainE y && plainE z && chkE st k y && chkE st e z
    | _ => false
  | .pop i, s => match s with
    | .Expr (.Call (.Attribute (.Name x _) m ap) [] [] cp) _ => decide (m = "pop") && chkName st i x && (ap.endLine == cp.line)
    | _ => false
  | .popTo j i, s => match s with
    | .Assign [.Name y _] (.Call (.Attribute (.Name x _) m ap) [] [] cp) _ => decide (m = "pop") && chkName st i x && chkStore st j y && (ap.endLine == cp.line)
    | _ => false
  | .expr e, s => match s with
    | .Expr v _ => notComp v && chkE st e v
    | _ => false
  | .ret e, s => match s with
    | .Return (some v) _ => chkE st e v
    | _ => false
  | .retN, s => match s with
    | .Return none _ => true
    | _ => false
  | .ite c a b, s => match s with
    | .If t x y _ => chkE st c t && chkSs st a x && chkSs st b y
    | _ => false
  | .wh c b, s => match s with
    | .While t x [] _ => chkE st c t && chkSs st b x
    | _ => false
  | .for_ tg it b, s => match s with
    | .For t i x [] _ => chkI st it t i && chkTg st tg t && chkSs st b x
    | _ => false
  | .brk, s => match s with
    | .Break _ => true
    | _ => false
  | .cont, s => match s with
    | .Continue _ => true
    | _ => false
  | .pass, s => match s with
    | .Pass _ => true
    | _ => false
  | .never, _ => true
  | .raise _, _ => false
def chkSs (st : Stc) : CSs → List Stmt → Bool
  | .nil, xs => match xs with
    | [] => true
    | _ => false
  | .cons s r, xs => match xs with
    | y :: ys => chkS st s y && chkSs st r ys
    | [] => false
end

section
variable {S : Sx} {Φ : Fns} {W : WX} {α β : Type} {G F₀ F F1 H : Hp} {σ : L2.St} {ρ : Env}
/-! ### the readings -/
def GotS (S : Sx) (W : WX) (G F₀ F : Hp) (o : Out Fl) (D : Ends) : Prop := match o with
  | .stuck => False
  | .ok f ρ' => ∀ σ' H' F', Same F F' → Rel S G F₀ σ' H' F' ρ' → match f with
    | .nx => D.nx σ' H'
    | .bk => D.bk σ' H'
    | .ct => D.ct σ' H'
    | .rt x => ∀ v, Rp S F' v x → D.rt v H'
  | .exc e ρ' => ∀ cls d σ' H' F', Same F F' → Rel S G F₀ σ' H' F' ρ' → ExcIs S e cls → W cls d σ' H'
theorem GotS.shift {o : Out Fl} {D : Ends} (h : GotS S W G F₀ F o D) (b : Same F F1) : GotS S W G F₀ F1 o D := by
  cases o with
  | stuck => exact h
  | ok v ρ' => exact fun σ' H' F' d => h σ' H' F' (b.trans d)
  | exc e ρ' => exact fun cls dd σ' H' F' d => h cls dd σ' H' F' (b.trans d)
/-- an expression's word, from the statement's -/
theorem GotS.bind {o : Out α} {f : α → Env → Out Fl} {D : Ends} (ok1 : Hp → Hp → Env → α → β → Prop) (h : GotS S W G F₀ F (o.bind f) D) :
    Got S W ok1 G F₀ σ H F o (fun x H1 => ∃ F1 a ρ1, Same F F1 ∧ Rel S G F₀ σ H1 F1 ρ1 ∧ ok1 H1 F1 ρ1 a x ∧ o = .ok a ρ1 ∧ GotS S W G F₀ F1 (f a ρ1) D) := by
  cases o with
  | stuck => exact h
  | ok v ρ' => exact fun x H' F' c d r k => ⟨F', v, ρ', d, r, k, rfl, GotS.shift h d⟩
  | exc e ρ' => exact fun cls d H' F' c ff r ex => h cls d σ H' F' ff r ex
theorem GotS.freeze {v : EV} {x : V} {f : PyData → Env → Out Fl} {D : Ends} (h : GotS S W G F₀ F ((VI.freeze v ρ).bind f) D) (R : Rel S G F₀ σ H F ρ) (k : ValOk S σ F v x) :
    ∃ d ρ' F', Same F F' ∧ Rp S F' x d ∧ Rel S G F₀ σ H F' ρ' ∧ GotS S W G F₀ F' (f d ρ') D := by
  cases e : VI.freeze v ρ with
  | stuck => rw [e] at h; exact h.elim
  | exc x r => exact absurd e freeze_noexc
  | ok d ρ' =>
    rw [e] at h
    obtain ⟨F', ff, r, R'⟩ := R.freeze k e
    exact ⟨d, ρ', F', ff, r, R', GotS.shift h ff⟩
theorem GotS.ofO {m : Option α} {f : α → Env → Out Fl} {D : Ends} (h : GotS S W G F₀ F ((VI.ofO m ρ).bind f) D) : ∃ a, m = some a ∧ GotS S W G F₀ F (f a ρ) D := by
  cases m with
  | none => exact h.elim
  | some a => exact ⟨a, rfl, h⟩
theorem TS_one {a : CE} {D : Ends} {Q : V → Hp → Prop} {f : EV → Env → Out Fl} (R : Rel S G F₀ σ H F ρ) (h : GotS S W G F₀ F ((ev Φ a ρ).bind f) D)
    (q : ∀ vx x ρ2 H2 F2, Rel S G F₀ σ H2 F2 ρ2 → ValOk S σ F2 vx x → GotS S W G F₀ F2 (f vx ρ2) D → Q x H2) : T S Φ W a σ H Q :=
  ⟨G, F₀, F, ρ, R, (GotS.bind (okV S σ) h).imp fun x H1 ⟨F1, vx, ρ1, ff1, R1, k1, _, h1⟩ => q vx x ρ1 H1 F1 R1 k1 h1⟩
theorem TS_test {c : CE} {D : Ends} {Q : Bool → Hp → Prop} {f : Bool → Env → Out Fl} (R : Rel S G F₀ σ H F ρ) (h : GotS S W G F₀ F ((ev Φ c ρ).bind fun x ρ => (truE x ρ).bind f) D)
    (q : ∀ t ρ2 H2 F2, Same F F2 → Rel S G F₀ σ H2 F2 ρ2 → GotS S W G F₀ F2 (f t ρ2) D → Q t H2) : TB S Φ W c σ H Q := by
  rw [assoc_tru] at h
  exact ⟨G, F₀, F, ρ, R, (GotS.bind (fun _ _ _ (a b : Bool) => a = b) h).imp fun t H1 ⟨F1, t', ρ1, ff1, R1, k1, _, h1⟩ => by
    have k1 : t' = t := k1
    subst k1
    exact q t' ρ1 H1 F1 ff1 R1 h1⟩
def TSt (S : Sx) (Φ : Fns) (W : WX) (c : CS) : TS := fun D σ H => ∃ G F₀ F ρ, Rel S G F₀ σ H F ρ ∧ GotS S W G F₀ F (ex Φ c ρ) D
def TSs (S : Sx) (Φ : Fns) (W : WX) (c : CSs) : TS := fun D σ H => ∃ G F₀ F ρ, Rel S G F₀ σ H F ρ ∧ GotS S W G F₀ F (exs Φ c ρ) D
theorem ps_imp {X : Cx} {s : Stmt} {t t' : TS} (h : PS X s t) (q : ∀ D σ H, t' D σ H → t D σ H) : PS X s t' := ⟨fun pins s σ H D I w => h.run pins s σ H D I (q D σ H w)⟩
theorem pss_imp {X : Cx} {s : List Stmt} {t t' : TS} (h : PSs X s t) (q : ∀ D σ H, t' D σ H → t D σ H) : PSs X s t' := ⟨fun pins s σ H D I w => h.run pins s σ H D I (q D σ H w)⟩

theorem S_set {i : Nat} {e : CE} {D : Ends} (h : TSt S Φ W (.set i e) D σ H) : tAsg (T S Φ W e) (gName i) D σ H := by
  obtain ⟨G, F₀, F, ρ, R, h⟩ := h
  refine TS_one R h fun vx x ρ2 H2 F2 R2 k h2 => ?_
  obtain ⟨d, ρ3, F3, ff, r, R3, h3⟩ := h2.freeze R2 k
  exact h3 _ _ _ (Same.refl _) (R3.set r)
theorem S_own {i : Nat} {c : CO} {D : Ends} (h : TSt S Φ W (.own i c) D σ H) : tAsg (TO' S Φ W c) (gName i) D σ H := by
  obtain ⟨G, F₀, F, ρ, R, h⟩ := h
  refine ⟨G, F₀, F, ρ, R, (GotS.bind (okO S G σ) h).imp fun x H1 ⟨F1, s, ρ1, ff1, R1, k1, _, h1⟩ => ?_⟩
  obtain ⟨p, rfl, hs, os, np⟩ := k1
  exact h1 _ _ _ (Same.refl _) (R1.setOwn os (fun v e => by rw [e]; exact hs) np)
theorem S_unpack {is : List Nat} {e : CE} {D : Ends} (h : TSt S Φ W (.unpack is e) D σ H) : tAsg (T S Φ W e) (gOf S.K (.tup is)) D σ H := by
  obtain ⟨G, F₀, F, ρ, R, h⟩ := h
  refine TS_one R h fun vx x ρ2 H2 F2 R2 k h2 => ?_
  obtain ⟨d, ρ3, F3, ff, r, R3, h3⟩ := h2.freeze R2 k
  cases e1 : asg (.tup is) d ρ3 with
  | none => rw [e1] at h3; exact h3.elim
  | some ρ4 =>
    rw [e1] at h3
    exact g_set R3 r e1 fun σ2 R4 _ => h3 _ _ _ (Same.refl _) R4
theorem S_par {i j : Nat} {es : CEs} {D : Ends} (h : TSt S Φ W (.par [i, j] es) D σ H) : tPar i j (TS' S Φ W es) D σ H := by
  obtain ⟨G, F₀, F, ρ, R, h⟩ := h
  refine ⟨G, F₀, F, ρ, R, (GotS.bind (okVs S σ) h).imp fun xs H1 ⟨F1, vs, ρ1, ff1, R1, k1, _, h1⟩ => ?_⟩
  cases e : VI.freezeAll vs ρ1 with
  | stuck => rw [e] at h1; exact h1.elim
  | exc x ρ2 =>
    exfalso
    have : ∀ (vs : List EV) (ρ1 ρ2 : Env), VI.freezeAll vs ρ1 ≠ .exc x ρ2 := by
      intro vs
      induction vs with
      | nil => intro ρ1 ρ2 h; cases h
      | cons v vs ih =>
        intro ρ1 ρ2 h
        unfold VI.freezeAll at h
        cases e1 : VI.freeze v ρ1 with
        | stuck => rw [e1] at h; cases h
        | exc _ _ => exact freeze_noexc e1
        | ok d ρ3 =>
          rw [e1] at h
          have h : ((VI.freezeAll vs ρ3).bind fun xs ρ => .ok (d :: xs) ρ) = Out.exc x ρ2 := h
          cases e2 : VI.freezeAll vs ρ3 with
          | stuck => rw [e2] at h; cases h
          | ok _ _ => rw [e2] at h; cases h
          | exc y ρ4 => rw [e2] at h; cases h; exact ih _ _ e2
    exact this _ _ _ e
  | ok ds ρ2 =>
    rw [e] at h1
    have h1 : GotS S W G F₀ F1 (if ds.length = [i, j].length then .ok .nx (setAll [i, j] ds ρ2) else .stuck) D := h1
    obtain ⟨F2, ff2, rs, R2⟩ := R1.freezeAll vs xs ρ1 F1 ds ρ2 e k1
    split at h1
    rotate_left
    · exact h1.elim
    rename_i hl
    match xs, ds, rs, hl, h1 with
    | [x, y], [d1, d2], .cons r1 (.cons r2 .nil), _, h1 =>
      refine ⟨x, y, rfl, ?_⟩
      exact h1 _ _ _ ff2 ((R2.set r1).set r2)
    | [], [], _, hl, _ => simp at hl
    | [_], [_], _, hl, _ => simp at hl
    | _ :: _ :: _ :: _, _ :: _ :: _ :: _, _, hl, _ => simp at hl
theorem S_expr {e : CE} {D : Ends} (h : TSt S Φ W (.expr e) D σ H) : tDrop (T S Φ W e) D σ H := by
  obtain ⟨G, F₀, F, ρ, R, h⟩ := h
  exact TS_one R h fun vx x ρ2 H2 F2 R2 k h2 => h2 _ _ _ (Same.refl _) R2
theorem S_ret {e : CE} {D : Ends} (h : TSt S Φ W (.ret e) D σ H) : tRet (T S Φ W e) D σ H := by
  obtain ⟨G, F₀, F, ρ, R, h⟩ := h
  refine TS_one R h fun vx x ρ2 H2 F2 R2 k h2 => ?_
  obtain ⟨d, ρ3, F3, ff, r, R3, h3⟩ := h2.freeze R2 k
  exact h3 _ _ _ (Same.refl _) R3 _ r
theorem S_ite {c : CE} {a b : CSs} {D : Ends} (h : TSt S Φ W (.ite c a b) D σ H) : tIfS (TB S Φ W c) (TSs S Φ W a) (TSs S Φ W b) D σ H := by
  obtain ⟨G, F₀, F, ρ, R, h⟩ := h
  refine TS_test R h fun t ρ2 H2 F2 _ R2 h2 => ?_
  cases t with
  | true => exact ⟨G, F₀, F2, ρ2, R2, h2⟩
  | false => exact ⟨G, F₀, F2, ρ2, R2, h2⟩
theorem S_seq {s : CS} {r : CSs} {D : Ends} (h : TSs S Φ W (.cons s r) D σ H) : tSeq (TSt S Φ W s) (TSs S Φ W r) D σ H := by
  obtain ⟨G, F₀, F, ρ, R, h⟩ := h
  refine ⟨G, F₀, F, ρ, R, ?_⟩
  have h : GotS S W G F₀ F ((ex Φ s ρ).bind fun f ρ => match f with | .nx => exs Φ r ρ | f => .ok f ρ) D := h
  cases e : ex Φ s ρ with
  | stuck => rw [e] at h; exact h
  | exc x ρ1 => rw [e] at h; exact h
  | ok f ρ1 =>
    rw [e] at h
    intro σ' H' F' ff R'
    cases f with
    | nx => exact ⟨G, F₀, F', ρ1, R', GotS.shift h ff⟩
    | bk => exact h σ' H' F' ff R'
    | ct => exact h σ' H' F' ff R'
    | rt x => exact h σ' H' F' ff R'
theorem S_while {c : CE} {b : CSs} {D : Ends} (h : TSt S Φ W (.wh c b) D σ H) : tWhile (TB S Φ W c) (TSs S Φ W b) D σ H := by
  obtain ⟨G, F₀, F, ρ, R, h⟩ := h
  refine ⟨fun m σ H => ∃ F ρ, Rel S G F₀ σ H F ρ ∧ GotS S W G F₀ F (whileL (fun ρ => ev Φ c ρ) (fun ρ => exs Φ b ρ) m ρ) D, ⟨fuelW, F, ρ, R, h⟩, ?_⟩
  rintro m σ H ⟨F, ρ, R, h⟩
  cases m with
  | zero => exact h.elim
  | succ m =>
    unfold whileL at h
    refine TS_test R h fun t ρ2 H2 F2 _ R2 h2 => ?_
    cases t with
    | false =>
      rw [if_neg Bool.false_ne_true]
      exact h2 _ _ _ (Same.refl _) R2
    | true =>
      rw [if_pos rfl]
      refine ⟨_, fun σ' H' n => ⟨m, Nat.lt_succ_self m, n⟩, G, F₀, F2, ρ2, R2, ?_⟩
      have h2 : GotS S W G F₀ F2 ((exs Φ b ρ2).bind fun f ρ => match f with
        | .nx => whileL (fun ρ => ev Φ c ρ) (fun ρ => exs Φ b ρ) m ρ
        | .ct => whileL (fun ρ => ev Φ c ρ) (fun ρ => exs Φ b ρ) m ρ
        | .bk => .ok .nx ρ
        | .rt x => .ok (.rt x) ρ) D := h2
      cases e : exs Φ b ρ2 with
      | stuck => rw [e] at h2; exact h2
      | exc x ρ1 => rw [e] at h2; exact h2
      | ok f ρ1 =>
        rw [e] at h2
        intro σ' H' F' ff R'
        cases f with
        | nx => exact ⟨F', ρ1, R', GotS.shift h2 ff⟩
        | bk => exact h2 σ' H' F' ff R'
        | ct => exact ⟨F', ρ1, R', GotS.shift h2 ff⟩
        | rt x => exact h2 σ' H' F' ff R'
theorem S_for {tg : Tg} {it : It} {b : CSs} {D : Ends} (h : TSt S Φ W (.for_ tg it b) D σ H) : tFor (TI' S Φ W true it) (gOf S.K tg) (TSs S Φ W b) D σ H := by
  obtain ⟨G, F₀, F, ρ, R, h⟩ := h
  refine ⟨G, F₀, F, ρ, R, (GotS.bind (okI S true) h).imp fun J H1 ⟨F1, xs, ρ1, ff1, R1, wk, _, h1⟩ => ?_⟩
  have wk : WalkOk S F1 F1 J xs := wk
  refine ⟨fun i m σ H => m = xs.length - i ∧ i ≤ xs.length ∧ ∃ F ρ, Same F1 F ∧ Rel S G F₀ σ H F ρ ∧ GotS S W G F₀ F (forL tg (fun ρ => exs Φ b ρ) (xs.drop i) ρ) D, ⟨_, rfl, Nat.zero_le _, F1, ρ1, Same.refl _, R1, h1⟩, ?_⟩
  rintro i m σ H ⟨rfl, hi, F2, ρ2, ff, R2, g⟩
  obtain ⟨ws, wg⟩ := wk H F2 (ff.trans R2.fle) ff R2.fle i
  by_cases hlt : i < xs.length
  · right
    have hx : xs[i]? = some xs[i] := List.getElem?_eq_getElem hlt
    obtain ⟨go, wy⟩ := wg _ hx
    refine ⟨go, fun σ' H' => i + 1 ≤ xs.length ∧ ∃ F ρ, Same F1 F ∧ Rel S G F₀ σ' H' F ρ ∧ GotS S W G F₀ F (forL tg (fun ρ => exs Φ b ρ) (xs.drop (i + 1)) ρ) D, fun σ' H' n => ⟨_, by omega, rfl, n⟩, fun y H3 hy => ?_⟩
    obtain ⟨F3, E3, r3⟩ := wy y H3 hy
    have R3 := R2.ext E3
    rw [List.drop_eq_getElem_cons hlt] at g
    unfold forL at g
    split at g
    · exact g.elim
    rename_i ρ3 ha
    refine g_set R3 r3 ha fun σ2 R4 _ => ⟨G, F₀, F3, ρ3, R4, ?_⟩
    cases e : exs Φ b ρ3 with
    | stuck => rw [e] at g; exact g
    | exc x ρ1 => rw [e] at g; exact GotS.shift g E3.ff
    | ok f ρ1 =>
      rw [e] at g
      intro σ' H' F' ff' R'
      cases f with
      | nx => exact ⟨hlt, F', ρ1, (ff.trans E3.ff).trans ff', R', GotS.shift g (E3.ff.trans ff')⟩
      | bk => exact g σ' H' F' (E3.ff.trans ff') R'
      | ct => exact ⟨hlt, F', ρ1, (ff.trans E3.ff).trans ff', R', GotS.shift g (E3.ff.trans ff')⟩
      | rt x => exact g σ' H' F' (E3.ff.trans ff') R'
  · left
    have e : i = xs.length := by omega
    refine ⟨ws (by omega), ?_⟩
    rw [e, List.drop_length] at g
    exact g _ _ _ (Same.refl _) R2
end
end VI
set_option Elab.async false
set_option linter.all false
set_option autoImplicit false
set_option maxRecDepth 20000
/-! Statements: all of them; defs. -/
namespace VI
open PySem PySem.Spec PyProof.Rows L2

section
variable {S : Sx} {Φ : Fns} {W : WX} {G F₀ F F1 H : Hp} {σ : L2.St} {ρ : Env}
theorem own_lst (R : Rel S G F₀ σ H F ρ) {i : Nat} {ds : List PyData} (h : ρ[i]? = some (.lst ds)) :
    ∃ p xs, σ[i]? = some (some (.ref p)) ∧ H p = some (.lst xs) ∧ RpAll S F xs ds ∧ ∀ ys ds', RpAll S F ys ds' → Rel S G F₀ σ (upd H p (.lst ys)) F (ρ.set i (.lst ds')) := by
  obtain ⟨p, xs, e1, h1, h2, h3, h4⟩ := R.slot i _ h
  exact ⟨p, xs, e1, h1, h2, fun ys ds' r => R.write h rfl e1 rfl ⟨p, ys, rfl, upd_same, r, h3, h4⟩⟩
theorem isLst_some {i : Nat} (h : isLst ρ i = true) : ∃ ds, ρ[i]? = some (.lst ds) := by
  unfold isLst at h
  split at h
  · exact ⟨_, by assumption⟩
  · cases h
theorem GotS.onLst {i : Nat} {f : List PyData → Option (List PyData)} {D : Ends} (h : GotS S W G F₀ F (VI.onLst i f ρ) D) : ∃ ds ds', ρ[i]? = some (.lst ds) ∧ f ds = some ds' ∧ GotS S W G F₀ F (.ok .nx (ρ.set i (.lst ds'))) D := by
  unfold VI.onLst at h
  split at h
  · rename_i ds e
    split at h
    · rename_i ds' e2
      exact ⟨ds, ds', e, e2, h⟩
    · exact h.elim
  · exact h.elim
theorem tyV_lst {K : PySem.W.Frag} {p : Addr} {xs : List V} (h : H p = some (.lst xs)) : tyV K "list" (.ref p) H := .inl ⟨rfl, xs, SqL.of h⟩
theorem S_append {i : Nat} {e : CE} {D : Ends} (h : TSt S Φ W (.append i e) D σ H) : tDrop (tBM S.K "list" rAppend (tVar i) (tCons (T S Φ W e) tNil)) D σ H := by
  obtain ⟨G, F₀, F, ρ, R, h⟩ := h
  unfold ex at h
  split at h
  rotate_left
  · exact h.elim
  rename_i hi
  obtain ⟨ds0, e0⟩ := isLst_some hi
  obtain ⟨p, xs0, e1, h1, _⟩ := own_lst R e0
  refine ⟨.ref p, e1, tyV_lst h1, TS_one R h fun vx x ρ2 H2 F2 R2 k h2 => ?_⟩
  obtain ⟨d, ρ3, F3, ff, r, R3, h3⟩ := h2.freeze R2 k
  obtain ⟨ds, ds', e2, e3, h4⟩ := h3.onLst
  split at e3 <;> cases e3
  rename_i hs
  obtain ⟨p', xs, e4, h5, h6, wr⟩ := own_lst R3 e2
  rw [e1] at e4
  cases e4
  exact ⟨p, xs, x, rfl, rfl, h5, by rw [h6.length]; exact most_line' hs, h4 _ _ _ (Same.refl _) (wr _ _ (h6.append (.one r)))⟩
abbrev rIns : V → List V → Hp → VK → Prop := fun x vs H Q => ∃ (l : Addr) (xs : List V) (i : Int) (y : V), x = .ref l ∧ vs = [.int i, y] ∧ H l = some (.lst xs) ∧ xs.length < sizeLine ∧ 0 ≤ i ∧ i < 2 ^ 63 ∧
    Q .non (upd H l (.lst (xs.take i.toNat ++ [y] ++ xs.drop i.toNat)))
theorem S_insert {i : Nat} {k e : CE} {D : Ends} (h : TSt S Φ W (.insert i k e) D σ H) : tDrop (tBM S.K "list" rIns (tVar i) (tCons (T S Φ W k) (tCons (T S Φ W e) tNil))) D σ H := by
  obtain ⟨G, F₀, F, ρ, R, h⟩ := h
  unfold ex at h
  split at h
  rotate_left
  · exact h.elim
  rename_i hi
  obtain ⟨ds0, e0⟩ := isLst_some hi
  obtain ⟨p, xs0, e1, h1, _⟩ := own_lst R e0
  refine ⟨.ref p, e1, tyV_lst h1, ⟨G, F₀, F, ρ, R, (GotS.bind (okV S σ) h).imp fun y H1 ⟨F1, vy, ρ1, ff1, R1, k1, _, h1⟩ => ⟨G, F₀, F1, ρ1, R1, (GotS.bind (okV S σ) h1).imp fun x H2 ⟨F2, vx, ρ2, ff2, R2, k2, _, h2⟩ => ?_⟩⟩⟩
  obtain ⟨d, ρ3, F3, ff, r, R3, h3⟩ := h2.freeze R2 k2
  obtain ⟨j, ej, h3⟩ := h3.ofO
  have := view_int R3 (k1.mono (ff2.trans ff)) ej
  subst this
  obtain ⟨ds, ds', e2, e3, h4⟩ := h3.onLst
  split at e3 <;> cases e3
  rename_i hs
  simp only [Bool.and_eq_true, decide_eq_true_eq] at hs
  obtain ⟨p', xs, e4, h5, h6, wr⟩ := own_lst R3 e2
  rw [e1] at e4
  cases e4
  exact ⟨p, xs, j, x, rfl, rfl, h5, by rw [h6.length]; exact most_line' hs.1.1, hs.1.2, hs.2, h4 _ _ _ (Same.refl _) (wr _ _ (((h6.take _).append (.one r)).append (h6.drop _)))⟩
theorem RpAll.dropLast {vs : List V} {ds : List PyData} (h : RpAll S F vs ds) : RpAll S F vs.dropLast ds.dropLast := by
  rw [List.dropLast_eq_take, List.dropLast_eq_take, h.length]
  exact h.take _
theorem S_pop {i : Nat} {D : Ends} (h : TSt S Φ W (.pop i) D σ H) : tDrop (tBM0 S.K "list" rPop (tVar i)) D σ H := by
  obtain ⟨G, F₀, F, ρ, R, h⟩ := h
  obtain ⟨ds, ds', e2, e3, h4⟩ := GotS.onLst h
  split at e3 <;> cases e3
  rename_i hs
  obtain ⟨p, xs, e4, h5, h6, wr⟩ := own_lst R e2
  have hl := h6.length
  have hne : 0 < ds.length := by
    cases ds with
    | nil => simp at hs
    | cons _ _ => simp
  exact ⟨.ref p, e4, tyV_lst h5, p, xs, xs[xs.length - 1], rfl, rfl, h5, by simp, h4 _ _ _ (Same.refl _) (wr _ _ h6.dropLast)⟩
theorem S_popTo {j i : Nat} {D : Ends} (h : TSt S Φ W (.popTo j i) D σ H) : tAsg (tBM0 S.K "list" rPop (tVar i)) (gName j) D σ H := by
  obtain ⟨G, F₀, F, ρ, R, h⟩ := h
  obtain ⟨x, e1, h⟩ := GotS.ofO h
  unfold lastOf at e1
  split at e1
  rotate_left
  · cases e1
  rename_i ds e2
  unfold onLst at h
  rw [e2] at h
  have h : GotS S W G F₀ F (.ok .nx ((ρ.set i (.lst ds.dropLast)).set j (.d x))) D := h
  obtain ⟨p, xs, e4, h5, h6, wr⟩ := own_lst R e2
  have hl := h6.length
  rw [List.getLast?_eq_getElem?] at e1
  obtain ⟨v, g1, g2⟩ := h6.get e1
  rw [← hl] at g1
  exact ⟨.ref p, e4, tyV_lst h5, p, xs, v, rfl, rfl, h5, g1, h _ _ _ (Same.refl _) ((wr _ _ h6.dropLast).set g2)⟩

/-! ### x[k] = v -/
def rPut (S : Sx) : TSet := fun o i v H Q => rSetL o i v H Q ∨ ∃ F p ob kvs k d, Same F H ∧ o = .ref p ∧ H p = some ob ∧ F p = none ∧ DicR S F p ob kvs ∧ kindOk kvs k = true ∧ kvs.length + 1 ≤ sizeLine ∧ Rp S F i k.data ∧ Rp S F v d ∧
  ∀ ob', DicR S F p ob' (dPut kvs k d) → Q (upd H p ob')
theorem set_put {X : Cx} (hu : X.A.units + 200 < cLine) : PSet X (rPut X.sy) := by
  intro pins s σ H o i v ov iv u Q I ro ri rv h
  rcases h with h | ⟨F, p, ob, kvs, k, d, e, rfl, hp, fp, rd, hk, hz, rk, rvd, q⟩
  · exact set_list pins s σ H o i v ov iv u Q I ro ri rv h
  · cases ro
    exact e_setItem (W := W0) (by omega) I e hp fp rd hk hz rk ri rvd rv fun o' s' I' rd' => ⟨_, I', q o' rd'⟩
theorem S_put {i : Nat} {k e : CE} {D : Ends} (h : TSt S Φ W (.put i k e) D σ H) : tAsg (T S Φ W e) (gSub (tVar i) (T S Φ W k) (rPut S)) D σ H := by
  obtain ⟨G, F₀, F, ρ, R, h⟩ := h
  refine TS_one R h fun vx x ρ1 H1 F1 R1 k1 h1 => ?_
  obtain ⟨d, ρ2, F2, ff2, r2, R2, h2⟩ := h1.freeze R1 k1
  split at h2
  rotate_left
  · exact h2.elim
  rename_i hi
  have ho : ∃ p, σ[i]? = some (some (.ref p)) := by
    unfold isOwn at hi
    split at hi
    · rename_i ds e
      obtain ⟨p, _, e1, _⟩ := R2.slot i _ e
      exact ⟨p, e1⟩
    · rename_i ds e
      obtain ⟨p, _, e1, _⟩ := R2.slot i _ e
      exact ⟨p, e1⟩
    · cases hi
  obtain ⟨p, e1⟩ := ho
  refine ⟨.ref p, e1, G, F₀, F2, ρ2, R2, (GotS.bind (okV S σ) h2).imp fun y H3 ⟨F3, vy, ρ3, ff3, R3, k3, _, h3⟩ => ?_⟩
  unfold putE at h3
  split at h3
  · rename_i ds e2
    split at h3
    rotate_left
    · exact h3.elim
    rename_i ds' e3
    obtain ⟨kd, e4, e5⟩ := Option.bind_eq_some_iff.mp e3
    unfold listPut at e5
    split at e5
    rotate_left
    · cases e5
    rename_i n
    obtain ⟨j, e6, rfl⟩ := Option.map_eq_some_iff.mp e5
    have := (R3.view k3 e4).intE
    subst this
    obtain ⟨p', xs, e7, h5, h6, wr⟩ := own_lst R3 e2
    rw [e1] at e7
    cases e7
    exact .inl ⟨p, xs, n, j, rfl, rfl, h5, by rw [h6.length]; exact e6, h3 _ _ _ (Same.refl _) (wr _ _ (h6.set (r2.mono ff3) j))⟩
  · rename_i kvs e2
    split at h3
    rotate_left
    · exact h3.elim
    rename_i kk e3
    split at h3
    rotate_left
    · exact h3.elim
    rename_i hs
    obtain ⟨kd, e4, e5⟩ := Option.bind_eq_some_iff.mp e3
    obtain ⟨rfl, hk⟩ := dKey_some e5
    obtain ⟨p', o, e7, h5, h6, h7, h8⟩ := R3.slot i _ e2
    rw [e1] at e7
    cases e7
    refine .inr ⟨F3, p, o, kvs, kk, d, R3.fle, rfl, h5, h7, h6, hk, most_line hs, pk_key (R3.view k3 e4), r2.mono ff3, fun ob' rd' => ?_⟩
    exact h3 _ _ _ (Same.refl _) (R3.write e2 rfl e1 rfl ⟨p, ob', rfl, upd_same, rd', h7, h8⟩)
  · exact h3.elim

/-! ### what a comprehension's store asks -/
variable {st : Stc} {X : Cx}
theorem sw_any {elt : Expr} {gs : List Comprehension} {scope : Scope} {pos py : Pos} {y : Str} {l : Nat} {env : PySem.Env} :
    swapsWith (.ListComp elt gs scope pos) (some (.Name y py)) l env = pure (env.blockKind == .function && env.kindOf y == some .local && py.line == pos.line && !(scope.names.any fun (n, k) => n == y && (k == .local || k == .cell))) := rfl
theorem sw_not {e : Expr} {t : Option Expr} {l : Nat} {env : PySem.Env} (h : notComp e = true) : swapsWith e t l env = pure false := by
  cases e <;> first | rfl | cases h
theorem sole_not {e t : Expr} {l : Nat} {env : PySem.Env} (h : notComp e = true) : swapsWithSole [t] e l env = pure false := sw_not h
theorem swst_not {e : Expr} {es : List Expr} {k : Nat} {p : Pos} {env : PySem.Env} (h : isTupE e = false) : swappedStores [.Tuple es k p] e env = pure none := by
  cases e <;> first | rfl | cases h
theorem sub_plain {o i : Expr} {pos : Pos} {env : PySem.Env} (h : plainE i = true) : ∀ v, assign (.Subscript o i pos) env v = (do
      let ov ← holding [v] (eval o env)
      let iv ← holding [v, ov] (eval i env)
      standAt pos
      holding [v, ov, iv] (setItem ov iv v)
      release [v, ov, iv] []) := by
  intro v
  cases i <;> first | rfl | cases h
theorem swst_pair {x y : Str} {px py p p2 : Pos} {k k2 : Nat} {a b : Expr} {env : PySem.Env} (hk : env.scope.kind = .function) (h1 : env.scope.names.lookup x = some .local) (h2 : env.scope.names.lookup y = some .local) (hl : py.line = px.line) (hxy : x ≠ y)
    (hp : plainEs [a, b] = true) (h3 : [a, b].all (foldedForSure 8) = false) (h4 : [a, b].all (constantsAlone 8) = false) : swappedStores [.Tuple [.Name x px, .Name y py] k p] (.Tuple [a, b] k2 p2) env = pure (some [x, y]) := by
  have e1 : env.kindOf x = some .local := h1
  have e2 : env.kindOf y = some .local := h2
  have hb : env.blockKind = .function := by unfold Env.blockKind; rw [hk]; rfl
  have hs : ([a, b].any fun | .Starred .. => true | _ => false) = false := by
    simp only [plainEs, Bool.and_eq_true] at hp
    obtain ⟨q1, q2, _⟩ := hp
    simp only [List.any_cons, List.any_nil, Bool.or_false]
    cases a <;> first | exact absurd q1 Bool.false_ne_true | (cases b <;> first | rfl | exact absurd q2 Bool.false_ne_true)
  have hn : (x == y) = false := by simpa using hxy
  have hn' : (y == x) = false := by simpa using (Ne.symm hxy)
  unfold swappedStores
  simp [hb, e1, e2, hl, hs, h3, h4, List.eraseDups, List.eraseDupsBy, List.eraseDupsBy.loop, hn, hn', Expr.pos]
  intro h
  exfalso
  simp only [plainEs, Bool.and_eq_true] at hp
  obtain ⟨q1, q2, _⟩ := hp
  rcases h with h | h
  · cases a <;> first | exact absurd h Bool.false_ne_true | exact absurd q1 Bool.false_ne_true
  · cases b <;> first | exact absurd h Bool.false_ne_true | exact absurd q2 Bool.false_ne_true
end
end VI
set_option Elab.async false
set_option linter.all false
set_option autoImplicit false
set_option maxRecDepth 20000
/-! Statements: all of them; defs. -/
namespace VI
open PySem PySem.Spec PyProof.Rows L2

structure DyS (Φ : Fns) (st : Stc) (X : Cx) (W : WX) : Prop extends Dy Φ st X W where
  pass : PassesOwn (model X.prog X.w) X.A X.env X.xe
  kind : X.env.scope.kind = .function
section
variable {Φ : Fns} {st : Stc} {X : Cx} {W : WX}
theorem app_line {p q : Pos} (h : (p.endLine == q.line) = true) : (p.endLine == q.line) = true := h
theorem name_base {x f : Str} {p : Pos} {env : PySem.Env} : attributeBase (.Name x p) f env (eval (.Name x p) env) = eval (.Name x p) env := rfl

mutual
theorem sS : ∀ (c : CS) {s : Stmt}, DyS Φ st X W → chkS st c s = true → PS X s (TSt X.sy Φ W c)
  | .set i e, s, D, h => by
    unfold chkS at h
    split at h
    · rename_i x p v pos
      simp only [Bool.and_eq_true] at h
      obtain ⟨h1, h2, h3⟩ := D.store h.1.1
      exact ps_imp (ps_set (by rw [D.N]; exact D.nd) h1 h2 (sE e D.toDy h.2).1 (sw_not h.1.2) h3) fun D σ H w => S_set w
    · cases h
  | .own i c, s, D, h => by
    unfold chkS at h
    split at h
    · rename_i x p v pos
      simp only [Bool.and_eq_true] at h
      obtain ⟨h1, h2, h3⟩ := D.store h.1
      have nd : X.N.Nodup := by rw [D.N]; exact D.nd
      have plain : notComp v = true → PS X (.Assign [.Name x p] v pos) (TSt X.sy Φ W (.own i c)) := fun hc =>
        ps_imp (ps_set nd h1 h2 (sO c D.toDy h.2).1 (sw_not hc) h3) fun D σ H w => S_own w
      cases c with
      | comp elt tg it cond vs =>
        have hv := h.2
        cases v <;> first | exact plain rfl | skip
        · rename_i x' gs scope vp
          match gs, hv with
          | [], hv => simp [chkO] at hv
          | _ :: _ :: _, hv => simp [chkO] at hv
          | [⟨t, it', ifs, as⟩], hv =>
            obtain ⟨rfl, lc⟩ := lc_ok D.toDy hv
            obtain ⟨own, wi, g, tt, te, hi, ok, hg, ht, he, hs, q⟩ := lc.ex
            cases hsw : (X.env.blockKind == .function && X.env.kindOf x == some .local && p.line == vp.line && !(scope.names.any fun (n, k) => n == x && (k == .local || k == .cell))) with
            | true =>
              have hsw' : swapsWith (.ListComp x' [⟨t, it', ifs, 0⟩] scope vp) (some (.Name x p)) pos.line X.env = pure true := by rw [sw_any, hsw]
              have hl : X.env.scope.names.lookup x = some .local := by
                simp only [Bool.and_eq_true] at hsw
                have hk : X.env.kindOf x = some .local := by simpa using hsw.1.1.2
                exact hk
              exact ps_imp (ps_unl <| ps_setLc D.calm nd h1 hl hsw' hi ok hg ht he hs) fun D σ H w => by
                obtain ⟨G, F₀, F, ρ, R, w⟩ := S_own w
                exact q _ _ _ ⟨G, F₀, F, ρ, R, w⟩
            | false =>
              have hsw' : swapsWith (.ListComp x' [⟨t, it', ifs, 0⟩] scope vp) (some (.Name x p)) pos.line X.env = pure false := by rw [sw_any, hsw]
              exact ps_imp (ps_set nd h1 h2 (sO _ D.toDy hv).1 hsw' h3) fun D σ H w => S_own w
        · simp [chkO] at hv
        · simp [chkO] at hv
      | _ =>
        have hv := h.2
        refine plain ?_
        cases v <;> first | rfl | simp [chkO] at hv
    · cases h
  | .unpack is e, s, D, h => by
    unfold chkS at h
    split at h
    · rename_i es k p v pos
      simp only [Bool.and_eq_true, Bool.not_eq_true'] at h
      obtain ⟨⟨⟨h1, h2⟩, h3⟩, h4⟩ := h
      exact ps_imp (ps_asg (sE e D.toDy h4).1 (pg_of D.toDy (tg := .tup is) h1) (sole_not h2) (swst_not h3) rfl) fun D σ H w => S_unpack w
    · cases h
  | .par is es, s, D, h => by
    unfold chkS at h
    split at h
    · rename_i x px y py k p a b k2 p2 pos
      split at h
      · rename_i i j
        simp only [Bool.and_eq_true, Bool.not_eq_true', decide_eq_true_eq] at h
        obtain ⟨⟨⟨⟨⟨⟨⟨⟨⟨h1, h2⟩, h3⟩, h4⟩, h5⟩, h6⟩, h7⟩, h8⟩, h9⟩, h10⟩ := h
        have lx : X.env.scope.names.lookup x = some .local := by rw [D.sc]; exact isLoc_eq h5
        have ly : X.env.scope.names.lookup y = some .local := by rw [D.sc]; exact isLoc_eq h6
        obtain ⟨pl, _⟩ := chkEs_plain h10
        exact ps_imp (ps_par D.calm (by rw [D.N]; exact D.nd) (by rw [D.N]; exact h3) (by rw [D.N]; exact h4) h1 lx ly (sA es D.toDy h10) (swst_pair D.kind lx ly h7 h2 pl h8 h9) (sole_not (e := .Tuple [a, b] k2 p2) rfl)) fun D σ H w => S_par w
      · cases h
    · cases h
  | .put i k e, s, D, h => by
    unfold chkS at h
    split at h
    · rename_i x p y p2 v pos
      simp only [Bool.and_eq_true] at h
      obtain ⟨⟨⟨⟨h1, h2⟩, h3⟩, h4⟩, h5⟩ := h
      obtain ⟨g1, g2, g3, g4⟩ := D.name h1
      exact ps_imp (ps_asg (sE e D.toDy h5).1 (pg_sub (pe_var g1 g2 g3 g4) (sE k D.toDy h4).1 (set_put D.room) (sub_plain h2)) (sole_not h3) rfl rfl) fun D σ H w => S_put w
    · cases h
  | .append i e, s, D, h => by
    unfold chkS at h
    split at h
    · rename_i x p m ap y cp pos
      simp only [Bool.and_eq_true, decide_eq_true_eq] at h
      obtain ⟨⟨⟨⟨rfl, h1⟩, h2⟩, h3⟩, h4⟩ := h
      obtain ⟨g1, g2, g3, g4⟩ := D.name h1
      have pl : plainEs [y] = true := by simp [plainEs, h3]
      exact ps_imp (ps_expr (pe_bm PySem.F.plainAttrs_list PySem.F.slot_list_append PySem.F.type_list_append mt_append (pe_var g1 g2 g3 g4) (pa_cons (sE e D.toDy h4).1 pa_nil (star_cons h3)) name_base (plain_list (n := 0) pl (by simp)) h2 (star_cons h3) rfl) (sw_not rfl)) fun D σ H w => S_append w
    · cases h
  | .insert i k e, s, D, h => by
    unfold chkS at h
    split at h
    · rename_i x p m ap y z cp pos
      simp only [Bool.and_eq_true, decide_eq_true_eq] at h
      obtain ⟨⟨⟨⟨⟨⟨rfl, h1⟩, h2⟩, h3⟩, h3'⟩, h4⟩, h5⟩ := h
      obtain ⟨g1, g2, g3, g4⟩ := D.name h1
      have pl : plainEs [y, z] = true := by simp [plainEs, h3, h3']
      exact ps_imp (ps_expr (pe_bm PySem.F.plainAttrs_list PySem.F.slot_list_insert PySem.F.type_list_insert mt_insert (pe_var g1 g2 g3 g4) (pa_cons (sE k D.toDy h4).1 (pa_cons (sE e D.toDy h5).1 pa_nil (star_cons h3')) (star_cons h3)) name_base (plain_list (n := 0) pl (by simp)) h2 (star_cons h3) (star_none (by simp [plainEs, h3']))) (sw_not rfl)) fun D σ H w => S_insert w
    · cases h
  | .pop i, s, D, h => by
    unfold chkS at h
    split at h
    · rename_i x p m ap cp pos
      simp only [Bool.and_eq_true, decide_eq_true_eq] at h
      obtain ⟨⟨rfl, h1⟩, h2⟩ := h
      obtain ⟨g1, g2, g3, g4⟩ := D.name h1
      exact ps_imp (ps_expr (pe_bm0 PySem.F.plainAttrs_list PySem.F.slot_list_pop PySem.F.type_list_pop mt_pop (pe_var g1 g2 g3 g4) name_base h2) (sw_not rfl)) fun D σ H w => S_pop w
    · cases h
  | .popTo j i, s, D, h => by
    unfold chkS at h
    split at h
    · rename_i y p2 x p m ap cp pos
      simp only [Bool.and_eq_true, decide_eq_true_eq] at h
      obtain ⟨⟨⟨rfl, h1⟩, h3⟩, h2⟩ := h
      obtain ⟨g1, g2, g3, g4⟩ := D.name h1
      obtain ⟨k1, k2, k3⟩ := D.store h3
      exact ps_imp (ps_set (by rw [D.N]; exact D.nd) k1 k2 (pe_bm0 PySem.F.plainAttrs_list PySem.F.slot_list_pop PySem.F.type_list_pop mt_pop (pe_var g1 g2 g3 g4) name_base h2) (sw_not rfl) k3) fun D σ H w => S_popTo w
    · cases h
  | .expr e, s, D, h => by
    unfold chkS at h
    split at h
    · rw [Bool.and_eq_true] at h
      exact ps_imp (ps_expr (sE e D.toDy h.2).1 (sw_not h.1)) fun D σ H w => S_expr w
    · cases h
  | .ret e, s, D, h => by
    unfold chkS at h
    split at h
    · exact ps_imp (ps_ret (sE e D.toDy h).1) fun D σ H w => S_ret w
    · cases h
  | .retN, s, D, h => by
    unfold chkS at h
    split at h
    · refine ps_imp ps_retN fun D σ H w => ?_
      obtain ⟨G, F₀, F, ρ, R, w⟩ := w
      exact w _ _ _ (Same.refl _) R _ .non
    · cases h
  | .ite c a b, s, D, h => by
    unfold chkS at h
    split at h
    · simp only [Bool.and_eq_true] at h
      exact ps_imp (ps_if (sE c D.toDy h.1.1).2.1 (sSs a D h.1.2) (sSs b D h.2)) fun D σ H w => S_ite w
    · cases h
  | .wh c b, s, D, h => by
    unfold chkS at h
    split at h
    · rw [Bool.and_eq_true] at h
      exact ps_imp (ps_while D.pass (sE c D.toDy h.1).2.1 (sSs b D h.2)) fun D σ H w => S_while w
    · cases h
  | .for_ tg it b, s, D, h => by
    unfold chkS at h
    split at h
    · simp only [Bool.and_eq_true] at h
      obtain ⟨hi, hs⟩ := sI it true D.toDy h.1.1
      exact ps_imp (ps_for D.pass D.calm (pi_imp hi fun σ H R w => tix_true w) (pg_of D.toDy h.1.2) (sSs b D h.2) hs) fun D σ H w => S_for w
    · cases h
  | .brk, s, D, h => by
    unfold chkS at h
    split at h
    · refine ps_imp ps_break fun D σ H w => ?_
      obtain ⟨G, F₀, F, ρ, R, w⟩ := w
      exact w _ _ _ (Same.refl _) R
    · cases h
  | .cont, s, D, h => by
    unfold chkS at h
    split at h
    · refine ps_imp ps_continue fun D σ H w => ?_
      obtain ⟨G, F₀, F, ρ, R, w⟩ := w
      exact w _ _ _ (Same.refl _) R
    · cases h
  | .pass, s, D, h => by
    unfold chkS at h
    split at h
    · refine ps_imp ps_pass fun D σ H w => ?_
      obtain ⟨G, F₀, F, ρ, R, w⟩ := w
      exact w _ _ _ (Same.refl _) R
    · cases h
  | .never, s, D, h => ps_imp ps_never fun D σ H w => by
      obtain ⟨G, F₀, F, ρ, R, w⟩ := w
      exact w
  | .raise _, s, D, h => by
    unfold chkS at h
    cases h
theorem sSs : ∀ (c : CSs) {s : List Stmt}, DyS Φ st X W → chkSs st c s = true → PSs X s (TSs X.sy Φ W c)
  | .nil, s, D, h => by
    unfold chkSs at h
    split at h
    · refine pss_imp pss_nil fun D σ H w => ?_
      obtain ⟨G, F₀, F, ρ, R, w⟩ := w
      exact w _ _ _ (Same.refl _) R
    · cases h
  | .cons c r, s, D, h => by
    unfold chkSs at h
    split at h
    · rw [Bool.and_eq_true] at h
      exact pss_imp (pss_cons (sS c D h.1) (sSs r D h.2)) fun D σ H w => S_seq w
    · cases h
end

/-! ### a def -/
theorem startE_get {n : Nat} {xs : List PyData} {i : Nat} {s : SV} (h : (startE n xs)[i]? = some s) : (∃ x, xs[i]? = some x ∧ s = .d x) ∨ s = .unb := by
  unfold startE at h
  by_cases hi : i < xs.length
  · rw [List.getElem?_append_left (by simpa using hi), List.getElem?_map] at h
    cases e : xs[i]? with
    | none => rw [e] at h; cases h
    | some x => rw [e] at h; cases h; exact .inl ⟨x, rfl, rfl⟩
  · rw [List.getElem?_append_right (by simpa using Nat.le_of_not_lt hi)] at h
    exact .inr (List.eq_of_mem_replicate (List.mem_of_getElem? h))
theorem start_rel {S : Sx} {H F : Hp} {N : List Str} {vs : List V} {ds : List PyData} (e : Same F H) (r : RpAll S F vs ds) (hl : vs.length ≤ N.length) : Rel S H F (L2.start N vs) H F (startE N.length ds) := by
  have l := r.length
  refine ⟨Same.refl _, e, fun b g f => f, Same.refl _, ?_, fun i s h => ?_, fun i j p s t hij hs ht os ot _ _ => ?_⟩
  · simp only [startE, L2.start, List.length_append, List.length_map, List.length_replicate]
    omega
  · rcases startE_get h with ⟨x, h1, rfl⟩ | rfl
    · obtain ⟨v, h2, h3⟩ := r.get h1
      refine ⟨v, ?_, h3⟩
      have hi : i < vs.length := (List.getElem?_eq_some_iff.mp h2).1
      unfold L2.start
      rw [List.getElem?_append_left (by simpa using hi), List.getElem?_map, h2]
      rfl
    · exact True.intro
  · rcases startE_get hs with ⟨x, _, rfl⟩ | rfl <;> cases os
end

/-- a def checked: its names, its parameters' number -/
def chkF (consts : List (Str × Const)) (fns : List (Str × Nat)) (N : List Str) (n : Nat) (sc : Scope) (body : List Stmt) (f : Fn) : Bool :=
  decide (f.names = N.length) && decide (n ≤ N.length) && decide N.Nodup && chkSs ⟨N, sc, fun _ => true, consts, fns⟩ f.body body
end VI
set_option Elab.async false
set_option linter.all false
set_option autoImplicit false
set_option maxRecDepth 20000
/-! Defs, a table of them. -/
namespace VI
open PySem PySem.Spec PyProof.Rows L2

section
variable {P : Program} {w : World} {K : PySem.W.Frag} {mg : Str → Option Value} {base : Heap}
/-- a def's promise from its body's checking -/
theorem fn_ok {x : Str} {params : Arguments} {body : List Stmt} {scope : Scope} {f : Addr} {fd : FuncData} {N : List Str} {n k i : Nat} {consts : List (Str × Const)} {tb : List (Str × Nat)} {Φ Φ' : Fns} {c : Fn}
    (F : FunD K x x params body scope [] [] f fd) (S : FnScope N (N.take n) scope) (hc : chkF consts tb N n scope body c = true)
    (hΦ : ∀ ds, Φ' i ds = run Φ c ds) (blt : ∀ x ∈ blts, mg x = none) (con : ∀ x c, consts.lookup x = some c → ∃ u v, mg x = some u ∧ RelV v u ∧ constV c = some v)
    (fns : ∀ j y m, tb[j]? = some (y, m) → ∃ k' g gd ps, k' ≤ k ∧ FnOk P w K mg base (L2.CX P w) k' g gd ps (spF ⟨P, w, K, mg⟩ Φ j m) ∧ mg y = some (.ref g) ∧ PySem.W.keepIn K (.ref g) = true ∧ Binds K gd ps []) :
    FnOk P w K mg base (L2.CX P w) (k + 1) f fd (N.take n) (spF ⟨P, w, K, mg⟩ Φ' i n) := by
  unfold chkF at hc
  simp only [Bool.and_eq_true, decide_eq_true_eq] at hc
  obtain ⟨⟨⟨h1, h2⟩, h3⟩, h4⟩ := hc
  refine F.ok S (fun vs H Q E h => ?_) fun cdv A outer s H vs Q E hr h => ?_
  · obtain ⟨F, ds, _, _, hl, _⟩ := h
    rw [hl, List.length_take]
    omega
  · obtain ⟨F0, ds, e, r, hl, hm⟩ := h
    have D : DyS Φ ⟨N, scope, fun _ => true, consts, tb⟩ (cxOf (L2.CX P w) P w K mg base N x scope f cdv A outer s H E) (fun cls d _ H => E cls d H) :=
      { N := rfl, nd := h3, sc := rfl, calm := rfl, room := by have := hr.un; show (A.deeper _).units + 200 < cLine; omega, fnok := fun _ _ => rfl, takes := takes_of rfl rfl rfl rfl, blt := blt, con := con,
        fns := fun j y m hj => by
          obtain ⟨k', g, gd, ps, hk, g1, g2, g3, g4⟩ := fns j y m hj
          exact ⟨k', g, gd, ps, g1, hr.mono hk, g2, g3, g4⟩
        pass := passes_of rfl, kind := S.kind }
    refine ⟨_, sSs c.body D h4, H, F0, F0, startE N.length ds, start_rel e r (by rw [hl]; exact h2), ?_⟩
    rw [hΦ] at hm
    unfold run at hm
    rw [h1] at hm
    have out : ∀ {H' F' : Hp} {σ' : L2.St} {ρ' : Env}, Same F0 F' → Rel ⟨P, w, K, mg⟩ H F0 σ' H' F' ρ' → Ext H F0 H' F' := fun ff R => ⟨R.gle, ff, R.fle, fun b hb => by
      cases z : H b with
      | none => exact .inr rfl
      | some u => exact .inl (R.new b (by rw [z]; simp) hb)⟩
    cases ho : exs Φ c.body (startE N.length ds) with
    | stuck => rw [ho] at hm; exact hm.elim
    | exc e ρ' =>
      rw [ho] at hm
      exact fun cls d σ' H' F' ff R ex => hm cls d H' F' (out ff R) ex
    | ok fl ρ' =>
      rw [ho] at hm
      intro σ' H' F' ff R
      cases fl with
      | nx => exact hm .non H' F' (out ff R) .non
      | rt x => exact fun v rv => hm v H' F' (out ff R) rv
      | bk => exact hm.elim
      | ct => exact hm.elim

structure DD where
  name : Str
  st : Stmt
  N : List Str
  n : Nat
  fn : Fn
def DD.sig (d : DD) : Str × Nat := (d.name, d.n)
inductive Tab (consts : List (Str × Const)) (K : PySem.W.Frag) (mg : Str → Option Value) : List DD → Prop
  | nil : Tab consts K mg []
  | cons {d : DD} {r : List DD} (t : Tab consts K mg r) (h : chkF consts (r.reverse.map DD.sig) d.N d.n (defScope d.st) (defBody d.st) d.fn = true) (S : FnScope d.N (d.N.take d.n) (defScope d.st))
      (f : ∃ f fd, FunD K d.name d.name (defArgs d.st) (defBody d.st) (defScope d.st) [] [] f fd ∧ mg d.name = some (.ref f) ∧ Binds K fd (d.N.take d.n) []) : Tab consts K mg (d :: r)
theorem fns_old {f : Fn} {r : List Fn} {j : Nat} (h : j < r.length) : fns (f :: r) j = fns r j := by
  funext xs
  show (if j = r.length then run (fns r) f xs else fns r j xs) = _
  rw [if_neg (by omega)]
theorem Tab.ok {consts : List (Str × Const)} (blt : ∀ x ∈ blts, mg x = none) (con : ∀ x c, consts.lookup x = some c → ∃ u v, mg x = some u ∧ RelV v u ∧ constV c = some v) : ∀ {r : List DD}, Tab consts K mg r →
    ∀ j y m, (r.reverse.map DD.sig)[j]? = some (y, m) → ∃ g gd ps, FnOk P w K mg base (L2.CX P w) (j + 1) g gd ps (spF ⟨P, w, K, mg⟩ (fns (r.map (·.fn))) j m) ∧ mg y = some (.ref g) ∧ PySem.W.keepIn K (.ref g) = true ∧ Binds K gd ps [] := by
  intro r t
  induction t with
  | nil => intro j y m h; simp at h
  | @cons d r t h S hf ih =>
    intro j y m hj
    rw [List.reverse_cons, List.map_append] at hj
    have hl : (r.reverse.map DD.sig).length = r.length := by simp
    by_cases hlt : j < r.length
    · rw [List.getElem?_append_left (by rw [hl]; exact hlt)] at hj
      obtain ⟨g, gd, ps, g1, g2, g3, g4⟩ := ih j y m hj
      refine ⟨g, gd, ps, g1.imp fun vs H Q E hs => ?_, g2, g3, g4⟩
      unfold spF at hs ⊢
      rw [List.map_cons, fns_old (by simpa using hlt)] at hs
      exact hs
    · rw [List.getElem?_append_right (by rw [hl]; exact Nat.le_of_not_lt hlt), hl] at hj
      have e : j = r.length := by
        cases q : j - r.length with
        | zero => omega
        | succ q' => rw [q] at hj; simp at hj
      subst e
      simp [DD.sig] at hj
      obtain ⟨rfl, rfl⟩ := hj
      obtain ⟨f, fd, F, hm, hb⟩ := hf
      refine ⟨f, fd, d.N.take d.n, ?_, hm, F.kp, hb⟩
      refine fn_ok (Φ := fns (r.map (·.fn))) F S h (fun ds => ?_) blt con fun j y m hj => ?_
      · show (if r.length = (r.map (·.fn)).length then run (fns (r.map (·.fn))) d.fn ds else _) = _
        rw [if_pos (by simp)]
      · have hj2 : j < r.length := by
          have := (List.getElem?_eq_some_iff.mp hj).1
          rwa [hl] at this
        obtain ⟨g, gd, ps, g1, g2, g3, g4⟩ := ih j y m hj
        exact ⟨j + 1, g, gd, ps, hj2, g1, g2, g3, g4⟩
/-- the last def of a table -/
theorem Tab.top {consts : List (Str × Const)} {d : DD} {r : List DD} {f : Addr} (blt : ∀ x ∈ blts, mg x = none) (con : ∀ x c, consts.lookup x = some c → ∃ u v, mg x = some u ∧ RelV v u ∧ constV c = some v) (t : Tab consts K mg (d :: r)) (hm : mg d.name = some (.ref f)) :
    ∃ fd, FunD K d.name d.name (defArgs d.st) (defBody d.st) (defScope d.st) [] [] f fd ∧ ∀ base : Heap, FnOk P w K mg base (L2.CX P w) (r.length + 1) f fd (d.N.take d.n) (spF ⟨P, w, K, mg⟩ (fns ((d :: r).map (·.fn))) r.length d.n) := by
  cases t with
  | cons t h S hf =>
    obtain ⟨f', fd, F, hm', hb⟩ := hf
    rw [hm] at hm'
    cases hm'
    refine ⟨fd, F, fun base => fn_ok (Φ := fns (r.map (·.fn))) F S h (fun ds => ?_) blt con fun j y m hj => ?_⟩
    · show (if r.length = (r.map (·.fn)).length then run (fns (r.map (·.fn))) d.fn ds else _) = _
      rw [if_pos (by simp)]
    · have hj2 : j < r.length := by
        have := (List.getElem?_eq_some_iff.mp hj).1
        simpa using this
      obtain ⟨g, gd, ps, g1, g2, g3, g4⟩ := t.ok (P := P) (w := w) (base := base) blt con j y m hj
      exact ⟨j + 1, g, gd, ps, hj2, g1, g2, g3, g4⟩
/-- the law's promise, of a script -/
theorem sp_law {S : Sx} {Φ : Fns} {i : Nat} {H : Hp} {a : Addr} {ns : List Int} (hS : SqL S.K H a (ns.map V.int)) (h : Φ i [.list (ns.map PyData.int)] = .ok (.bool true)) : spF S Φ i 1 [.ref a] H (fun v _ => v = .bl true) fun _ _ _ => False := by
  refine ⟨H, [.list (ns.map PyData.int)], Same.refl _, .cons (.lst hS (ints_all ns)) .nil, rfl, ?_⟩
  rw [h]
  exact fun x H' F' _ r => r.blE
/-- the end of a law row, the script's bits told -/
theorem walk_EB {l : PySem.W.OpenLaw} {n k : Nat} {q : Program} {loose : List Str} {XP : (Str → Option Value) → Heap → Prop} {YP : World → Heap → Prop} {d : DefRec} {CX : World → CXT} {x : Str}
    (hn : l.most = some n) (hn2 : n ≤ sizeLine) (hdf : d.params.defaults = []) (hr : Room k callerA)
    (F : ∀ (w : World) (mg : Str → Option Value) (fa : Addr) (h : Heap), YP w h → h.Ns mainGlobals mg → mg d.name = some (.ref fa) →
      ∃ (K : PySem.W.Frag) (fd : FuncData) (sp : Sp), K.In h ∧ (∀ (s : Shared) (u : Value), BindsTo s fd ⟨[u], []⟩ [(x, u)]) ∧
        (∀ (H : Hp) (a : Addr) (ns : List Int), ns.length ≤ n → (∀ z ∈ ns, Builtin.Int.intBits z ≤ 1048576) → SqL K H a (ns.map V.int) → sp [.ref a] H (fun v _ => v = .bl true) fun _ _ _ => False) ∧
        ∀ base : Heap, K.In base → base.Ns mainGlobals mg → FnOk l.prog w K mg base (CX w) k fa fd [x] sp)
    (hCX : ∀ (w : World) (H : Hp) (s : Shared) (e : Value) (s' : Shared), CX w [] H s (fun _ _ _ => False) e s' → False) :
    PySem.W.WalkO q loose XP YP l.row.toRowW d [] (fun f vs => PySem.call f vs) := by
  refine Att.attach_callB hn hdf fun w s₀ s₁ mg mb fa o pm cd doc a vs ns G Y ho hd hcd hmg hobj hints hlen hbits hg => ?_
  obtain ⟨K, fd, sp, KX, hb, hsp, hF⟩ := F w mg fa _ Y G.T.g hmg
  exact law_call KX G.T.g G.T.b G.T.builtins G.T.nolimit hg hobj hints (Nat.le_trans hlen hn2) hr hF hb (fun H hO hS => hsp H a ns hlen hbits hS) fun H e s' => hCX w H s₁ e s'
theorem cx_no {P : Program} {w : World} (H : Hp) (s : Shared) (e : Value) (s' : Shared) (h : L2.CX P w [] H s (fun _ _ _ => False) e s') : False := by
  obtain ⟨_, _, _, _, _, _, _, _, _, _, _, _, z⟩ := h
  exact z
end
end VI
set_option Elab.async false
set_option linter.all false
set_option autoImplicit false
set_option maxRecDepth 20000
/-! Reasoning over the mini-interpreter: comprehensions, loops. -/
namespace VI
open PySem

theorem wipeE_len' (ρ : Env) : ∀ vs : List Nat, (wipeE ρ vs).length = ρ.length
  | [] => rfl
  | v :: vs => by unfold wipeE; rw [List.length_set, wipeE_len' ρ vs]
theorem wipeE_get' (ρ : Env) : ∀ (vs : List Nat) (j : Nat), (wipeE ρ vs)[j]? = if j ∈ vs ∧ j < ρ.length then some .unb else ρ[j]?
  | [], j => by simp [wipeE]
  | v :: vs, j => by
    show ((wipeE ρ vs).set v .unb)[j]? = _
    rw [List.getElem?_set, wipeE_get' ρ vs j, wipeE_len']
    by_cases hv : v = j
    · subst hv
      by_cases hl : v < ρ.length
      · simp [hl]
      · simp [hl, List.getElem?_eq_none (Nat.le_of_not_lt hl)]
    · rw [if_neg hv]
      have : j ≠ v := fun e => hv e.symm
      simp [this]
theorem backE_get' (ρ₀ ρ : Env) : ∀ (vs : List Nat) (j : Nat), (backE ρ₀ ρ vs)[j]? = if j ∈ vs ∧ j < ρ.length then some (ρ₀[j]?.getD .unb) else ρ[j]?
  | [], j => by simp [backE]
  | v :: vs, j => by
    have hl : ∀ vs : List Nat, (backE ρ₀ ρ vs).length = ρ.length := by
      intro vs
      induction vs with
      | nil => rfl
      | cons v vs ih => unfold backE; rw [List.length_set, ih]
    show ((backE ρ₀ ρ vs).set v (ρ₀[v]?.getD .unb))[j]? = _
    rw [List.getElem?_set, backE_get' ρ₀ ρ vs j, hl]
    by_cases hv : v = j
    · subst hv
      by_cases hl : v < ρ.length
      · simp [hl]
      · simp [hl, List.getElem?_eq_none (Nat.le_of_not_lt hl)]
    · rw [if_neg hv]
      have : j ≠ v := fun e => hv e.symm
      simp [this]
theorem back_eq {ρ₀ ρ : Env} {vs : List Nat} (h : wipeE ρ vs = wipeE ρ₀ vs) : backE ρ₀ ρ vs = ρ₀ := by
  have hl : ρ.length = ρ₀.length := by rw [← wipeE_len' ρ vs, h, wipeE_len']
  apply List.ext_getElem?
  intro j
  rw [backE_get']
  by_cases hj : j ∈ vs ∧ j < ρ.length
  · rw [if_pos hj]
    have : j < ρ₀.length := by omega
    rw [List.getElem?_eq_getElem this]
    rfl
  · rw [if_neg hj]
    have e : (wipeE ρ vs)[j]? = (wipeE ρ₀ vs)[j]? := by rw [h]
    rw [wipeE_get', wipeE_get', if_neg hj, if_neg (by rw [← hl]; exact hj)] at e
    exact e
section
variable {Φ : Fns}
/-- a comprehension whose items leave the slots as they are -/
theorem compL_map {β : Type} {elt cond : Env → Out EV} {tg : Tg} {ρ₀ : Env} {vs : List Nat} {ρw : Env} (e : β → PyData) (p : β → Bool) (g : β → PyData) : ∀ (ys : List β) (acc : List PyData) (ρ : Env), wipeE ρ vs = ρw →
    (∀ x ∈ ys, ∃ ρ1, asg tg (e x) ρw = some ρ1 ∧ wipeE ρ1 vs = ρw ∧ (∃ c, cond ρ1 = .ok c ρ1 ∧ truE c ρ1 = .ok (p x) ρ1) ∧ (p x = true → elt ρ1 = .ok (.d (g x)) ρ1)) → acc.length + ys.length ≤ most →
    ∃ ρ', compL elt cond tg ρ₀ vs (ys.map e) acc ρ = .ok (acc ++ (ys.filter p).map g) ρ' ∧ wipeE ρ' vs = ρw
  | [], acc, ρ, hw, _, _ => ⟨ρ, by simp [compL], hw⟩
  | x :: xs, acc, ρ, hw, h, hl => by
    obtain ⟨ρ1, h1, h2, ⟨c, h3, h4⟩, h5⟩ := h x List.mem_cons_self
    have hx : ∀ y ∈ xs, _ := fun y hy => h y (List.mem_cons_of_mem _ hy)
    rw [List.map_cons]
    unfold compL
    rw [hw, h1]
    simp only
    rw [h3]
    simp only
    rw [h4]
    cases hp : p x with
    | false =>
      simp only
      obtain ⟨ρ', e1, e2⟩ := compL_map e p g xs acc ρ1 h2 hx (by simp at hl; omega)
      refine ⟨ρ', ?_, e2⟩
      rw [e1, List.filter_cons_of_neg (by simp [hp])]
    | true =>
      simp only
      rw [h5 hp]
      simp only [freeze]
      have hs : small (acc.length + 1) = true := by
        unfold small
        simp at hl
        exact decide_eq_true (by omega)
      rw [if_pos hs]
      obtain ⟨ρ', e1, e2⟩ := compL_map e p g xs (acc ++ [g x]) ρ1 h2 hx (by simp at hl ⊢; omega)
      refine ⟨ρ', ?_, e2⟩
      rw [e1, List.filter_cons_of_pos hp]
      simp
/-- .. as an expression, the slots as they were -/
theorem ev_comp {β : Type} {elt cond : CE} {tg : Tg} {it : It} {vs : List Nat} {ρ : Env} {ys : List β} (e : β → PyData) (p : β → Bool) (g : β → PyData) (hi : evI Φ false it ρ = .ok (ys.map e) ρ) (ho : okWipe ρ vs = true) (hl : ys.length ≤ most)
    (h : ∀ x ∈ ys, ∃ ρ1, asg tg (e x) (wipeE ρ vs) = some ρ1 ∧ wipeE ρ1 vs = wipeE ρ vs ∧ (∃ c, ev Φ cond ρ1 = .ok c ρ1 ∧ truE c ρ1 = .ok (p x) ρ1) ∧ (p x = true → ev Φ elt ρ1 = .ok (.d (g x)) ρ1)) :
    evO Φ (.comp elt tg it cond vs) ρ = .ok (.lst ((ys.filter p).map g)) ρ := by
  have e0 : evO Φ (.comp elt tg it cond vs) ρ = (evI Φ false it ρ).bind fun xs ρ => if okWipe ρ vs then
      (compL (fun ρ => ev Φ elt ρ) (fun ρ => ev Φ cond ρ) tg ρ vs xs [] ρ).bind fun ys ρ' => .ok (.lst ys) (backE ρ ρ' vs) else .stuck := by simp only [evO]
  rw [e0, hi, bind_ok, if_pos ho]
  obtain ⟨ρ', e1, e2⟩ := compL_map (elt := fun ρ => ev Φ elt ρ) (cond := fun ρ => ev Φ cond ρ) (tg := tg) (ρ₀ := ρ) e p g ys [] ρ rfl h (by simpa using hl)
  rw [e1, bind_ok, back_eq e2]
  rfl
/-- no condition -/
theorem ev_comp1 {β : Type} {elt : CE} {tg : Tg} {it : It} {vs : List Nat} {ρ : Env} {ys : List β} (e : β → PyData) (g : β → PyData) (hi : evI Φ false it ρ = .ok (ys.map e) ρ) (ho : okWipe ρ vs = true) (hl : ys.length ≤ most)
    (h : ∀ x ∈ ys, ∃ ρ1, asg tg (e x) (wipeE ρ vs) = some ρ1 ∧ wipeE ρ1 vs = wipeE ρ vs ∧ ev Φ elt ρ1 = .ok (.d (g x)) ρ1) :
    evO Φ (.comp elt tg it (.lit (.bool true)) vs) ρ = .ok (.lst (ys.map g)) ρ := by
  have := ev_comp (Φ := Φ) (cond := .lit (.bool true)) (elt := elt) (tg := tg) (it := it) (vs := vs) e (fun _ => true) g hi ho hl fun x hx => by
    obtain ⟨ρ1, a, b, c⟩ := h x hx
    exact ⟨ρ1, a, b, ⟨.d (.bool true), by simp only [ev], rfl⟩, fun _ => c⟩
  rw [this]
  rw [List.filter_eq_self.mpr (fun _ _ => rfl)]
/-- a for by an invariant over what is left -/
theorem forL_inv {tg : Tg} {b : Env → Out Fl} (I : List PyData → Env → Prop) (hstep : ∀ x xs ρ, I (x :: xs) ρ → ∃ ρ1 ρ2, asg tg x ρ = some ρ1 ∧ b ρ1 = .ok .nx ρ2 ∧ I xs ρ2) : ∀ (xs : List PyData) (ρ : Env), I xs ρ → ∃ ρ', forL tg b xs ρ = .ok .nx ρ' ∧ I [] ρ'
  | [], ρ, h => ⟨ρ, rfl, h⟩
  | x :: xs, ρ, h => by
    obtain ⟨ρ1, ρ2, e1, e2, h2⟩ := hstep x xs ρ h
    obtain ⟨ρ', e3, h3⟩ := forL_inv I hstep xs ρ2 h2
    refine ⟨ρ', ?_, h3⟩
    unfold forL
    rw [e1]
    simp only
    rw [e2]
    simp only [bind_ok]
    exact e3
end

/-! ### data -/
inductive Pl where
  | fin (v : Int × Int)
  | pick (q : Int) (gs : List Int)
  | throw (v : Int × Int) (ws : List (Int × Int))
  deriving DecidableEq
def pairD (p : Int × Int) : PyData := .tuple [.int p.1, .int p.2]
def Pl.enc : Pl → PyData
  | .fin v => .tuple [.str "end", pairD v]
  | .pick q gs => .tuple [.str "pick", .int q, .list (gs.map .int)]
  | .throw v ws => .tuple [.str "throw", pairD v, .list (ws.map pairD)]
def Pl.goals : Pl → List Int
  | .fin _ => []
  | .pick _ gs => gs
  | .throw _ ws => ws.map (·.2)

/-! ### steps -/
theorem bind_congr' {α β : Type} {m m' : Out α} {f : α → Env → Out β} (h : m = m') : m.bind f = m'.bind f := by rw [h]
theorem sh_none : SeqAt.shaped .none = true := rfl
theorem sh_bool (b : Bool) : SeqAt.shaped (.bool b) = true := rfl
theorem sh_int (i : Int) : SeqAt.shaped (.int i) = true := rfl
theorem sh_end : SeqAt.shaped (.str "end") = true := by decide +kernel
theorem sh_pick : SeqAt.shaped (.str "pick") = true := by decide +kernel
theorem sh_throw : SeqAt.shaped (.str "throw") = true := by decide +kernel
theorem ne1 : ((("end" : Str) == ("throw" : Str))) = false := by decide +kernel
theorem ne2 : ((("end" : Str) == ("pick" : Str))) = false := by decide +kernel
theorem ne3 : ((("pick" : Str) == ("throw" : Str))) = false := by decide +kernel
theorem ne4 : ((("pick" : Str) == ("end" : Str))) = false := by decide +kernel
theorem ne5 : ((("throw" : Str) == ("end" : Str))) = false := by decide +kernel
theorem ne6 : ((("throw" : Str) == ("pick" : Str))) = false := by decide +kernel
theorem view_d (o : Env) (x : PyData) : view o (.d x) = some x := rfl
theorem freeze_d (o : Env) (x : PyData) : freeze (.d x) o = .ok x o := rfl
theorem both_s {α : Type} (f : PyData → PyData → Option α) (x y : PyData) : both f (some x) (some y) = f x y := rfl
theorem eqv_str (a b : Str) : PyData.eqv (.str a) (.str b) = (a == b) := by simp [PyData.eqv]
theorem eqv_int (a b : Int) : PyData.eqv (.int a) (.int b) = (a == b) := by simp [PyData.eqv]
theorem truE_b (o : Env) (b : Bool) : truE (.d (.bool b)) o = .ok b o := rfl
theorem slot_l (ds : List PyData) : slotD (.lst ds) = some (.list ds) := rfl
theorem slot_k (ds : List (NK × PyData)) : slotD (.dic ds) = some (dictOf ds) := rfl
theorem slot_d (x : PyData) : slotD (.d x) = some x := rfl
theorem view_o (o : Env) (i : Nat) : view o (.own i) = (o[i]?).bind slotD := rfl
theorem freeze_l {o : Env} {i : Nat} {ds : List PyData} (h : o[i]? = some (.lst ds)) : freeze (.own i) o = .ok (.list ds) (o.set i (.d (.list ds))) := by
  unfold freeze
  simp [h, slotD]
theorem freeze_k {o : Env} {i : Nat} {ds : List (NK × PyData)} (h : o[i]? = some (.dic ds)) : freeze (.own i) o = .ok (dictOf ds) (o.set i (.d (dictOf ds))) := by
  unfold freeze
  simp [h, slotD]
theorem look_f (o : Env) (v : EV) : look false v o = ofO (view o v) o := rfl
theorem look_t (o : Env) (v : EV) : look true v o = freeze v o := rfl
theorem seq_l (xs : List PyData) : seqD (.list xs) = some xs := rfl
theorem seq_t (xs : List PyData) : seqD (.tuple xs) = some xs := rfl
theorem list_l (xs : List PyData) : listD (.list xs) = some xs := rfl
theorem asl_l (xs : List PyData) : asList (.list xs) = some xs := rfl
theorem asl_t (xs : List PyData) : asList (.tuple xs) = some xs := rfl
theorem ix_l (xs : List PyData) (i : Int) : idxD (.list xs) (.int i) = L2.atI xs i := rfl
theorem ix_t (xs : List PyData) (i : Int) : idxD (.tuple xs) (.int i) = L2.atI xs i := rfl
theorem at_nat {α : Type} (xs : List α) (i : Nat) : L2.atI xs (i : Int) = xs[i]? := by
  unfold L2.atI L2.ixN
  by_cases h : i < xs.length
  · simp [h]
  · simp [h]
theorem at_last {α : Type} (xs : List α) (h : xs ≠ []) : L2.atI xs (-1) = xs.getLast? := by
  have hl : 0 < xs.length := List.length_pos_iff.mpr h
  unfold L2.atI L2.ixN
  have e1 : ¬ ((0 : Int) ≤ -1) := by omega
  have e2 : -(xs.length : Int) ≤ -1 := by omega
  have e3 : (-1 + (xs.length : Int)).toNat = xs.length - 1 := by omega
  simp [e1, e2, e3, List.getLast?_eq_getElem?]
theorem at0 {α : Type} (x : α) (xs : List α) : L2.atI (x :: xs) 0 = some x := by
  have := at_nat (x :: xs) 0
  simpa using this
theorem at1 {α : Type} (x y : α) (xs : List α) : L2.atI (x :: y :: xs) 1 = some y := by
  have := at_nat (x :: y :: xs) 1
  simpa using this
theorem at2 {α : Type} (x y z : α) (xs : List α) : L2.atI (x :: y :: z :: xs) 2 = some z := by
  have := at_nat (x :: y :: z :: xs) 2
  simpa using this
section
variable {Φ : Fns} (ρ : Env)
theorem o_list (es : CEs) : evO Φ (.list es) ρ = (evs Φ es ρ).bind fun vs ρ => (freezeAll vs ρ).bind fun xs ρ => .ok (.lst xs) ρ := by simp only [evO]
theorem o_listOf (a : CE) : evO Φ (.listOf a) ρ = (ev Φ a ρ).bind fun x ρ => ofO (((view ρ x).bind asList).map .lst) ρ := by simp only [evO]
theorem o_dict0 : evO Φ .dict0 ρ = .ok (.dic []) ρ := by simp only [evO]
end
section
variable (Φ : Fns)
def whl (c : CE) (b : CSs) (n : Nat) (ρ : Env) : Out Fl := whileL (fun ρ => ev Φ c ρ) (fun ρ => exs Φ b ρ) n ρ
def frl (tg : Tg) (b : CSs) (xs : List PyData) (ρ : Env) : Out Fl := forL tg (fun ρ => exs Φ b ρ) xs ρ
variable {Φ} (ρ : Env)
theorem x_set (i : Nat) (e : CE) : ex Φ (.set i e) ρ = (ev Φ e ρ).bind fun v ρ => (freeze v ρ).bind fun x ρ => .ok .nx (ρ.set i (.d x)) := by simp only [ex]
theorem x_own (i : Nat) (e : CO) : ex Φ (.own i e) ρ = (evO Φ e ρ).bind fun s ρ => .ok .nx (ρ.set i s) := by simp only [ex]
theorem x_unpack (is : List Nat) (e : CE) : ex Φ (.unpack is e) ρ = (ev Φ e ρ).bind fun v ρ => (freeze v ρ).bind fun x ρ => match asg (.tup is) x ρ with
    | some ρ => .ok .nx ρ
    | none => .stuck := by
  simp only [ex] <;> rfl
theorem x_par (is : List Nat) (es : CEs) : ex Φ (.par is es) ρ = (evs Φ es ρ).bind fun vs ρ => (freezeAll vs ρ).bind fun xs ρ => if xs.length = is.length then .ok .nx (setAll is xs ρ) else .stuck := by simp only [ex]
theorem x_put (i : Nat) (k e : CE) : ex Φ (.put i k e) ρ = (ev Φ e ρ).bind fun v ρ => (freeze v ρ).bind fun x ρ => if isOwn ρ i then (ev Φ k ρ).bind fun k ρ => putE i (view ρ k) x ρ else .stuck := by simp only [ex]
theorem x_append (i : Nat) (e : CE) : ex Φ (.append i e) ρ = if isLst ρ i then (ev Φ e ρ).bind fun v ρ => (freeze v ρ).bind fun x ρ => onLst i (fun ds => if small (ds.length + 1) then some (ds ++ [x]) else none) ρ else .stuck := by simp only [ex]
theorem x_pop (i : Nat) : ex Φ (.pop i) ρ = onLst i (fun ds => if ds.isEmpty then none else some ds.dropLast) ρ := by simp only [ex]
theorem x_popTo (j i : Nat) : ex Φ (.popTo j i) ρ = (ofO (lastOf ρ i) ρ).bind fun x ρ => (onLst i (fun ds => some ds.dropLast) ρ).bind fun _ ρ => .ok .nx (ρ.set j (.d x)) := by simp only [ex]
theorem x_expr (e : CE) : ex Φ (.expr e) ρ = (ev Φ e ρ).bind fun _ ρ => .ok .nx ρ := by simp only [ex]
theorem x_ret (e : CE) : ex Φ (.ret e) ρ = (ev Φ e ρ).bind fun v ρ => (freeze v ρ).bind fun x ρ => .ok (.rt x) ρ := by simp only [ex]
theorem x_retN : ex Φ .retN ρ = .ok (.rt .none) ρ := by simp only [ex]
theorem x_ite (c : CE) (a b : CSs) : ex Φ (.ite c a b) ρ = (ev Φ c ρ).bind fun v ρ => (truE v ρ).bind fun t ρ => if t then exs Φ a ρ else exs Φ b ρ := by simp only [ex]
theorem x_wh (c : CE) (b : CSs) : ex Φ (.wh c b) ρ = whl Φ c b fuelW ρ := by simp only [ex, whl]
theorem x_for (tg : Tg) (it : It) (b : CSs) : ex Φ (.for_ tg it b) ρ = (evI Φ true it ρ).bind fun xs ρ => frl Φ tg b xs ρ := by simp only [ex, frl]
theorem x_brk : ex Φ .brk ρ = .ok .bk ρ := by simp only [ex]
theorem x_cont : ex Φ .cont ρ = .ok .ct ρ := by simp only [ex]
theorem x_pass : ex Φ .pass ρ = .ok .nx ρ := by simp only [ex]
theorem x_never : ex Φ .never ρ = .stuck := by simp only [ex]
theorem frl_inv {tg : Tg} {b : CSs} {β : Type} (e : β → PyData) (I : List β → Env → Prop) (hstep : ∀ x xs ρ, I (x :: xs) ρ → ∃ ρ1 ρ2, asg tg (e x) ρ = some ρ1 ∧ exs Φ b ρ1 = .ok .nx ρ2 ∧ I xs ρ2) : ∀ (xs : List β) (ρ : Env), I xs ρ → ∃ ρ', frl Φ tg b (xs.map e) ρ = .ok .nx ρ' ∧ I [] ρ'
  | [], ρ, h => ⟨ρ, rfl, h⟩
  | x :: xs, ρ, h => by
    obtain ⟨ρ1, ρ2, e1, e2, h2⟩ := hstep x xs ρ h
    obtain ⟨ρ', e3, h3⟩ := frl_inv e I hstep xs ρ2 h2
    refine ⟨ρ', ?_, h3⟩
    rw [List.map_cons]
    unfold frl forL
    rw [e1]
    simp only
    rw [e2]
    simp only [bind_ok]
    exact e3
theorem whl_t {c : CE} {b : CSs} {n : Nat} {v : EV} {ρ1 ρ2 : Env} (h1 : ev Φ c ρ = .ok v ρ1) (h2 : truE v ρ1 = .ok true ρ1) (h3 : exs Φ b ρ1 = .ok .nx ρ2) : whl Φ c b (n + 1) ρ = whl Φ c b n ρ2 := by
  unfold whl
  rw [whileL]
  simp [h1, h2, h3]
theorem whl_f {c : CE} {b : CSs} {n : Nat} {v : EV} {ρ1 : Env} (h1 : ev Φ c ρ = .ok v ρ1) (h2 : truE v ρ1 = .ok false ρ1) : whl Φ c b (n + 1) ρ = .ok .nx ρ1 := by
  unfold whl
  rw [whileL]
  simp [h1, h2]
end
end VI
set_option Elab.async false
set_option linter.all false
set_option autoImplicit false
set_option maxRecDepth 20000
/-! The defs of the ends, the shares, the alike. -/
namespace VI
namespace AL
open PySem
def A0 : Fn := ⟨2, (.cons (.ite (.cmp .eq (.idx (.var 0) (.lit (.int 0))) (.lit (.str ("end" : Str)))) (.cons (.ret (.fr (.list .nil))) .nil) .nil) (.cons (.ite (.cmp .eq (.idx (.var 0) (.lit (.int 0))) (.lit (.str ("throw" : Str)))) (.cons (.ret (.fr (.comp (.idx (.var 1) (.lit (.int 1))) (.name 1) (.seq (.idx (.var 0) (.lit (.int 2)))) (.lit (.bool true)) [1]))) .nil) .nil) (.cons (.ret (.fr (.listOf (.idx (.var 0) (.lit (.int 2)))))) .nil)))⟩
def A1 : Fn := ⟨2, (.cons (.wh (.cmp .gt (.var 1) (.lit (.int 0))) (.cons (.par [0, 1] (.cons (.var 1) (.cons (.bin .mod (.var 0) (.var 1)) .nil))) .nil)) (.cons (.ret (.var 0)) .nil))⟩
def A2 : Fn := ⟨3, (.cons (.ite (.cmp .eq (.var 1) (.lit (.int 0))) (.cons .never .nil) .nil) (.cons (.ite (.cmp .lt (.var 1) (.lit (.int 0))) (.cons (.set 0 (.neg (.var 0))) (.cons (.set 1 (.neg (.var 1))) .nil)) .nil) (.cons (.set 2 (.call 1 (.cons (.bi .abs (.cons (.var 0) .nil)) (.cons (.var 1) .nil)))) (.cons (.ret (.tuple (.cons (.bin .fdiv (.var 0) (.var 2)) (.cons (.bin .fdiv (.var 1) (.var 2)) .nil)))) .nil))))⟩
def A3 : Fn := ⟨4, (.cons (.own 1 .dict0) (.cons (.own 2 (.list .nil)) (.cons (.for_ (.name 3) (.seq (.var 0)) (.cons (.ite (.cmp .notIn (.var 3) (.var 1)) (.cons (.put 1 (.var 3) (.bi .len (.cons (.var 1) .nil))) .nil) .nil) (.cons (.append 2 (.idx (.var 1) (.var 3))) .nil))) (.cons (.ret (.var 2)) .nil))))⟩
def A4 : Fn := ⟨8, (.cons (.set 2 (.bi .sum (.cons (.fr (.comp (.idx (.var 6) (.lit (.int 0))) (.name 6) (.seq (.idx (.var 0) (.lit (.int 2)))) (.lit (.bool true)) [6])) .nil))) (.cons (.own 3 .dict0) (.cons (.for_ (.tup [4, 5]) (.seq (.idx (.var 0) (.lit (.int 2)))) (.cons (.put 3 (.idx (.var 1) (.var 5)) (.bin .add (.get2 (.var 3) (.idx (.var 1) (.var 5)) (.lit (.int 0))) (.var 4))) .nil)) (.cons (.ret (.bi .tuple (.cons (.fr (.comp (.tuple (.cons (.var 7) (.cons (.call 2 (.cons (.idx (.var 3) (.var 7)) (.cons (.var 2) .nil))) .nil))) (.name 7) (.seq (.bi .sorted (.cons (.var 3) .nil))) (.lit (.bool true)) [7])) .nil))) .nil))))⟩
def A5 : Fn := ⟨4, (.cons (.ite (.cmp .eq (.idx (.var 0) (.lit (.int 0))) (.lit (.str ("throw" : Str)))) (.cons (.ret (.tuple (.cons (.var 1) (.cons (.call 4 (.cons (.var 0) (.cons (.var 2) .nil))) .nil)))) .nil) .nil) (.cons (.ret (.tuple (.cons (.var 1) (.cons (.bi .tuple (.cons (.bi .sortedSet (.cons (.fr (.comp (.idx (.var 2) (.var 3)) (.name 3) (.seq (.call 0 (.cons (.var 0) .nil))) (.lit (.bool true)) [3])) .nil)) .nil)) .nil)))) .nil))⟩
def A6 : Fn := ⟨4, (.cons (.ret (.call 3 (.cons (.fr (.comp (.call 5 (.cons (.var 2) (.cons (.var 3) (.cons (.var 1) .nil)))) (.tup [2, 3]) (.zip (.var 0) (.var 1)) (.lit (.bool true)) [2, 3])) .nil))) .nil)⟩
def A7 : Fn := ⟨6, (.cons (.own 2 (.list .nil)) (.cons (.for_ (.name 3) (.seq (.var 0)) (.cons (.ite (.cmp .eq (.idx (.var 3) (.lit (.int 0))) (.lit (.str ("throw" : Str)))) (.cons (.append 2 (.tuple (.cons (.lit (.str ("throw" : Str))) (.cons (.idx (.var 3) (.lit (.int 1))) (.cons (.fr (.comp (.tuple (.cons (.var 4) (.cons (.bin .add (.var 5) (.var 1)) .nil))) (.tup [4, 5]) (.seq (.idx (.var 3) (.lit (.int 2)))) (.lit (.bool true)) [4, 5])) .nil))))) .nil) (.cons (.ite (.cmp .eq (.idx (.var 3) (.lit (.int 0))) (.lit (.str ("pick" : Str)))) (.cons (.append 2 (.tuple (.cons (.lit (.str ("pick" : Str))) (.cons (.idx (.var 3) (.lit (.int 1))) (.cons (.fr (.comp (.bin .add (.var 5) (.var 1)) (.name 5) (.seq (.idx (.var 3) (.lit (.int 2)))) (.lit (.bool true)) [5])) .nil))))) .nil) (.cons (.append 2 (.var 3)) .nil)) .nil)) .nil)) (.cons (.ret (.var 2)) .nil)))⟩
def A8 : Fn := ⟨6, (.cons (.set 2 (.bin .add (.fr (.listOf (.var 0))) (.call 7 (.cons (.var 1) (.cons (.bi .len (.cons (.var 0) .nil)) .nil))))) (.cons (.own 3 (.list (.cons (.call 3 (.cons (.fr (.comp (.slice (.var 5) (.lit .none) (.lit (.int 2))) (.name 5) (.seq (.var 2)) (.lit (.bool true)) [5])) .nil)) .nil))) (.cons (.set 4 (.call 6 (.cons (.var 2) (.cons (.idx (.var 3) (.neg (.lit (.int 1)))) .nil)))) (.cons (.wh (.cmp .gt (.bi .max (.cons (.var 4) .nil)) (.bi .max (.cons (.idx (.var 3) (.neg (.lit (.int 1)))) .nil))) (.cons (.append 3 (.var 4)) (.cons (.set 4 (.call 6 (.cons (.var 2) (.cons (.var 4) .nil)))) .nil))) (.cons (.ret (.var 3)) .nil)))))⟩
def A9 : Fn := ⟨5, (.cons (.set 4 (.idx (.call 8 (.cons (.var 0) (.cons (.var 2) .nil))) (.neg (.lit (.int 1))))) (.cons (.ret (.cmp .eq (.idx (.var 4) (.var 1)) (.idx (.var 4) (.bin .add (.bi .len (.cons (.var 0) .nil)) (.var 3))))) .nil))⟩
theorem goals_of {Φ : Fns} (p : Pl) (hl : p.goals.length ≤ most) : run Φ A0 [p.enc] = .ok (.list (p.goals.map .int)) := by
  cases p with
  | fin v => simp [run, exs, x_set, x_own, x_unpack, x_par, x_put, x_append, x_pop, x_popTo, x_expr, x_ret, x_retN, x_ite, x_wh, x_for, x_brk, x_cont, x_pass, ev, evs, evI, o_list, o_listOf, o_dict0, startE, view_d, view_o, freeze_d, both_s, ix_l, ix_t, at0, at1, at2, cmpD, eqD, truE_b, sh_none, sh_bool, sh_int, sh_end, sh_pick, sh_throw, eqv_str, eqv_int, ne1, ne2, ne3, ne4, ne5, ne6, slot_l, slot_d, slot_k, look_f, look_t, seq_l, seq_t, list_l, asl_l, asl_t, freezeAll, VI.views, A0, Pl.enc, Pl.goals]
  | pick q gs => simp [run, exs, x_set, x_own, x_unpack, x_par, x_put, x_append, x_pop, x_popTo, x_expr, x_ret, x_retN, x_ite, x_wh, x_for, x_brk, x_cont, x_pass, ev, evs, evI, o_list, o_listOf, o_dict0, startE, view_d, view_o, freeze_d, both_s, ix_l, ix_t, at0, at1, at2, cmpD, eqD, truE_b, sh_none, sh_bool, sh_int, sh_end, sh_pick, sh_throw, eqv_str, eqv_int, ne1, ne2, ne3, ne4, ne5, ne6, slot_l, slot_d, slot_k, look_f, look_t, seq_l, seq_t, list_l, asl_l, asl_t, freezeAll, VI.views, A0, Pl.enc, Pl.goals]
  | throw v ws =>
    have c : ∀ ρ : Env, ρ = [.d (Pl.throw v ws).enc, .unb] → evO Φ (.comp (.idx (.var 1) (.lit (.int 1))) (.name 1) (.seq (.idx (.var 0) (.lit (.int 2)))) (.lit (.bool true)) [1]) ρ = .ok (.lst (ws.map fun p => .int p.2)) ρ := by
      rintro ρ rfl
      refine ev_comp1 (ys := ws) pairD (fun p => .int p.2) (by simp [run, exs, x_set, x_own, x_unpack, x_par, x_put, x_append, x_pop, x_popTo, x_expr, x_ret, x_retN, x_ite, x_wh, x_for, x_brk, x_cont, x_pass, ev, evs, evI, o_list, o_listOf, o_dict0, startE, view_d, view_o, freeze_d, both_s, ix_l, ix_t, at0, at1, at2, cmpD, eqD, truE_b, sh_none, sh_bool, sh_int, sh_end, sh_pick, sh_throw, eqv_str, eqv_int, ne1, ne2, ne3, ne4, ne5, ne6, slot_l, slot_d, slot_k, look_f, look_t, seq_l, seq_t, list_l, asl_l, asl_t, freezeAll, VI.views, Pl.enc]) (by simp [okWipe, plainS]) (by simpa [Pl.goals] using hl) fun x hx => ⟨[.d (Pl.throw v ws).enc, .d (pairD x)], ?_, ?_, ?_⟩
      · simp [asg, wipeE]
      · simp [wipeE]
      · simp [run, exs, x_set, x_own, x_unpack, x_par, x_put, x_append, x_pop, x_popTo, x_expr, x_ret, x_retN, x_ite, x_wh, x_for, x_brk, x_cont, x_pass, ev, evs, evI, o_list, o_listOf, o_dict0, startE, view_d, view_o, freeze_d, both_s, ix_l, ix_t, at0, at1, at2, cmpD, eqD, truE_b, sh_none, sh_bool, sh_int, sh_end, sh_pick, sh_throw, eqv_str, eqv_int, ne1, ne2, ne3, ne4, ne5, ne6, slot_l, slot_d, slot_k, look_f, look_t, seq_l, seq_t, list_l, asl_l, asl_t, freezeAll, VI.views, pairD]
    have c' := c _ rfl
    simp only [Pl.enc] at c'
    simp [run, exs, x_set, x_own, x_unpack, x_par, x_put, x_append, x_pop, x_popTo, x_expr, x_ret, x_retN, x_ite, x_wh, x_for, x_brk, x_cont, x_pass, ev, evs, evI, o_list, o_listOf, o_dict0, startE, view_d, view_o, freeze_d, both_s, ix_l, ix_t, at0, at1, at2, cmpD, eqD, truE_b, sh_none, sh_bool, sh_int, sh_end, sh_pick, sh_throw, eqv_str, eqv_int, ne1, ne2, ne3, ne4, ne5, ne6, slot_l, slot_d, slot_k, look_f, look_t, seq_l, seq_t, list_l, asl_l, asl_t, freezeAll, VI.views, A0, Pl.enc, Pl.goals, c']
theorem gcd_loop {Φ : Fns} : ∀ (n a b : Nat), b < n → whl Φ (.cmp .gt (.var 1) (.lit (.int 0))) (.cons (.par [0, 1] (.cons (.var 1) (.cons (.bin .mod (.var 0) (.var 1)) .nil))) .nil) n [.d (.int a), .d (.int b)] =
    .ok .nx [.d (.int (Nat.gcd a b : Nat)), .d (.int 0)]
  | 0, _, _, h => absurd h (Nat.not_lt_zero _)
  | n + 1, a, b, h => by
    cases b with
    | zero => exact whl_f _ (v := .d (.bool false)) (by simp [run, exs, x_set, x_own, x_unpack, x_par, x_put, x_append, x_pop, x_popTo, x_expr, x_ret, x_retN, x_ite, x_wh, x_for, x_brk, x_cont, x_pass, ev, evs, evI, o_list, o_listOf, o_dict0, startE, view_d, view_o, freeze_d, both_s, ix_l, ix_t, at0, at1, at2, cmpD, eqD, truE_b, sh_none, sh_bool, sh_int, sh_end, sh_pick, sh_throw, eqv_str, eqv_int, ne1, ne2, ne3, ne4, ne5, ne6, slot_l, slot_d, slot_k, look_f, look_t, seq_l, seq_t, list_l, asl_l, asl_t, freezeAll, VI.views, intC]) rfl
    | succ b =>
      have h1 : (0 : Int) < ((b + 1 : Nat) : Int) := by omega
      have hlt : a % (b + 1) < b + 1 := Nat.mod_lt a (Nat.succ_pos b)
      have ih := gcd_loop (Φ := Φ) n (b + 1) (a % (b + 1)) (by omega)
      have e2 : Nat.gcd (b + 1) (a % (b + 1)) = Nat.gcd a (b + 1) := by
        rw [Nat.gcd_comm (b + 1), ← Nat.gcd_rec, Nat.gcd_comm]
      rw [e2] at ih
      rw [← ih]
      exact whl_t _ (v := .d (.bool true)) (ρ1 := [.d (.int a), .d (.int ((b + 1 : Nat) : Int))]) (by simp [run, exs, x_set, x_own, x_unpack, x_par, x_put, x_append, x_pop, x_popTo, x_expr, x_ret, x_retN, x_ite, x_wh, x_for, x_brk, x_cont, x_pass, ev, evs, evI, o_list, o_listOf, o_dict0, startE, view_d, view_o, freeze_d, both_s, ix_l, ix_t, at0, at1, at2, cmpD, eqD, truE_b, sh_none, sh_bool, sh_int, sh_end, sh_pick, sh_throw, eqv_str, eqv_int, ne1, ne2, ne3, ne4, ne5, ne6, slot_l, slot_d, slot_k, look_f, look_t, seq_l, seq_t, list_l, asl_l, asl_t, freezeAll, VI.views, intC]) rfl (by simp [run, exs, x_set, x_own, x_unpack, x_par, x_put, x_append, x_pop, x_popTo, x_expr, x_ret, x_retN, x_ite, x_wh, x_for, x_brk, x_cont, x_pass, ev, evs, evI, o_list, o_listOf, o_dict0, startE, view_d, view_o, freeze_d, both_s, ix_l, ix_t, at0, at1, at2, cmpD, eqD, truE_b, sh_none, sh_bool, sh_int, sh_end, sh_pick, sh_throw, eqv_str, eqv_int, ne1, ne2, ne3, ne4, ne5, ne6, slot_l, slot_d, slot_k, look_f, look_t, seq_l, seq_t, list_l, asl_l, asl_t, freezeAll, VI.views, binD, modD, h1, setAll])
theorem divisor_of {Φ : Fns} (a b : Nat) (h : b < 2 ^ 64) : run Φ A1 [.int a, .int b] = .ok (.int (Nat.gcd a b : Nat)) := by
  have := gcd_loop (Φ := Φ) fuelW a b h
  simp [run, exs, x_set, x_own, x_unpack, x_par, x_put, x_append, x_pop, x_popTo, x_expr, x_ret, x_retN, x_ite, x_wh, x_for, x_brk, x_cont, x_pass, ev, evs, evI, o_list, o_listOf, o_dict0, startE, view_d, view_o, freeze_d, both_s, ix_l, ix_t, at0, at1, at2, cmpD, eqD, truE_b, sh_none, sh_bool, sh_int, sh_end, sh_pick, sh_throw, eqv_str, eqv_int, ne1, ne2, ne3, ne4, ne5, ne6, slot_l, slot_d, slot_k, look_f, look_t, seq_l, seq_t, list_l, asl_l, asl_t, freezeAll, VI.views, A1, this]
theorem share {Φ : Fns} (t b : Nat) (hb : 0 < b) (hb2 : b < 2 ^ 64) (h1 : Φ 1 [.int t, .int b] = .ok (.int (Nat.gcd t b : Nat))) :
    run Φ A2 [.int t, .int b] = .ok (pairD ((t : Int) / (Nat.gcd t b : Nat), (b : Int) / (Nat.gcd t b : Nat))) := by
  have g0 : 0 < Nat.gcd t b := Nat.gcd_pos_of_pos_right _ hb
  have gl : Nat.gcd t b ≤ b := Nat.gcd_le_right _ hb
  have hd : divOk ((Nat.gcd t b : Nat) : Int) = true := by
    have : (Nat.gcd t b).log2 < 64 := by
      rw [Nat.log2_lt (by omega)]
      omega
    unfold divOk
    simp
    omega
  have e1 : (b : Int) ≠ 0 := by omega
  have e2 : ¬ (b : Int) < 0 := by omega
  have e3 : ¬ (t : Int) < 0 := by omega
  have e4 : ((b : Int) == 0) = false := by simpa using e1
  simp [run, exs, x_set, x_own, x_unpack, x_par, x_put, x_append, x_pop, x_popTo, x_expr, x_ret, x_retN, x_ite, x_wh, x_for, x_brk, x_cont, x_pass, ev, evs, evI, o_list, o_listOf, o_dict0, startE, view_d, view_o, freeze_d, both_s, ix_l, ix_t, at0, at1, at2, cmpD, eqD, truE_b, sh_none, sh_bool, sh_int, sh_end, sh_pick, sh_throw, eqv_str, eqv_int, ne1, ne2, ne3, ne4, ne5, ne6, slot_l, slot_d, slot_k, look_f, look_t, seq_l, seq_t, list_l, asl_l, asl_t, freezeAll, VI.views, A2, intC, e2, e3, e4, biD, on1, absB, h1, callE, isScalar, binD, fdivD, hd, pairD]

/-! ### numbered -/
section
variable {α : Type} [DecidableEq α]
def nstep (s : List α × List Int) (k : α) : List α × List Int := if k ∈ s.1 then (s.1, s.2 ++ [(s.1.idxOf k : Int)]) else (s.1 ++ [k], s.2 ++ [(s.1.length : Int)])
def numb (ks : List α) : List Int := (ks.foldl nstep ([], [])).2
end
def kvsOf (met : List NK) : List (NK × PyData) := met.zipIdx.map fun p => (p.1, .int (p.2 : Nat))
theorem kvs_len (met : List NK) : (kvsOf met).length = met.length := by simp [kvsOf]
theorem kvs_snoc (met : List NK) (k : NK) : kvsOf (met ++ [k]) = kvsOf met ++ [(k, .int (met.length : Nat))] := by
  simp [kvsOf, List.zipIdx_append]
theorem kvs_keys (met : List NK) : (kvsOf met).map (·.1) = met := by
  simp [kvsOf, Function.comp_def]
theorem dLook_append {a b : List (NK × PyData)} {k : NK} : dLook (a ++ b) k = (dLook a k).or (dLook b k) := by
  unfold dLook
  rw [List.find?_append]
  cases a.find? (fun p => decide (p.1 = k)) <;> simp
theorem dLook_none {kvs : List (NK × PyData)} {k : NK} (h : k ∉ kvs.map (·.1)) : dLook kvs k = none := by
  unfold dLook
  have : kvs.find? (fun p => decide (p.1 = k)) = none := by
    rw [List.find?_eq_none]
    intro p hp
    simp
    intro e
    exact h (List.mem_map.mpr ⟨p, hp, e⟩)
  rw [this]; rfl
theorem rev_ind {α : Type} {P : List α → Prop} (h0 : P []) (h1 : ∀ l a, P l → P (l ++ [a])) (l : List α) : P l := by
  have : ∀ n (l : List α), l.length = n → P l := by
    intro n
    induction n with
    | zero => intro l h; rw [List.length_eq_zero_iff.mp h]; exact h0
    | succ n ih =>
      intro l h
      have hne : l ≠ [] := fun e => by subst e; simp at h
      rw [← List.dropLast_concat_getLast hne]
      exact h1 _ _ (ih _ (by rw [List.length_dropLast]; omega))
  exact this _ l rfl
theorem idx_new {α : Type} [DecidableEq α] {l : List α} {k : α} (h : k ∉ l) : (l ++ [k]).idxOf k = l.length := by
  rw [List.idxOf_append, if_neg h]
  simp
theorem idx_old {α : Type} [DecidableEq α] {l m : List α} {k : α} (h : k ∈ l) : (l ++ m).idxOf k = l.idxOf k := by
  rw [List.idxOf_append, if_pos h]
theorem kvs_look (k : NK) : ∀ met : List NK, dLook (kvsOf met) k = if k ∈ met then some (.int (met.idxOf k : Nat)) else none := by
  intro met
  refine rev_ind (P := fun met => dLook (kvsOf met) k = if k ∈ met then some (.int (met.idxOf k : Nat)) else none) rfl (fun met m ih => ?_) met
  · show dLook (kvsOf (met ++ [m])) k = _
    rw [kvs_snoc, dLook_append, ih]
    by_cases h : k ∈ met
    · simp [h, idx_old h]
    · by_cases e : m = k
      · subst e
        simp [h, dLook, idx_new h]
      · have e' : k ≠ m := fun z => e z.symm
        simp [h, dLook, e, e']
theorem kvs_put {met : List NK} {k : NK} (h : k ∉ met) : dPut (kvsOf met) k (.int (met.length : Nat)) = kvsOf (met ++ [k]) := by
  have e : ((kvsOf met).any fun p => decide (p.1 = k)) = false := by
    rw [List.any_eq_false]
    intro p hp
    simp
    intro z
    apply h
    have := List.mem_map.mpr ⟨p, hp, z⟩
    rwa [kvs_keys] at this
  unfold dPut
  rw [e, kvs_snoc]
  simp
theorem und_of (kvs : List (NK × PyData)) : dictOf kvs = .dict (kvs.map fun p => (p.1.data, p.2)) := rfl
theorem in_dict (x : PyData) (kvs : List (NK × PyData)) : inD x (dictOf kvs) = (dKey kvs x).map fun k => (dLook kvs k).isSome := by
  simp [inD, und_of, undict_of]
theorem ix_dict (x : PyData) (kvs : List (NK × PyData)) : idxD (dictOf kvs) x = (dKey kvs x).bind (dLook kvs) := by
  simp [idxD, und_of, undict_of]
theorem get_dict (x y : PyData) (kvs : List (NK × PyData)) : getD (dictOf kvs) x y = (dKey kvs x).map fun k => (dLook kvs k).getD y := by
  simp [getD, und_of, undict_of]
theorem len_dict (kvs : List (NK × PyData)) : lenB (dictOf kvs) = some (.int kvs.length) := by
  simp [lenB, und_of, undict_of]
theorem key_tup {met : List NK} {k : NK} (h : ∀ m ∈ k :: met, okKey m = true) : dKey (kvsOf met) k.data = some k := by
  have hk : kindOk (kvsOf met) k = true := by
    have h0 := h k List.mem_cons_self
    cases k with
    | tup ks =>
      show (okKey (.tup ks) && (kvsOf met).all fun p => isTupK p.1) = true
      rw [h0, Bool.true_and, List.all_eq_true]
      intro p hp
      have : p.1 ∈ met := by
        have : p.1 ∈ (kvsOf met).map (·.1) := List.mem_map.mpr ⟨p, hp, rfl⟩
        rwa [kvs_keys] at this
      have h1 := h p.1 (List.mem_cons_of_mem _ this)
      cases hq : p.1 <;> simp [hq, okKey, isTupK] at h1 ⊢
    | _ => cases h0
  unfold dKey
  rw [keyOf_data]
  simp [hk]
theorem nstep_mem {met : List NK} {acc : List Int} {k : NK} (h : k ∈ met) : nstep (met, acc) k = (met, acc ++ [(met.idxOf k : Int)]) := by simp [nstep, h]
theorem nstep_new {met : List NK} {acc : List Int} {k : NK} (h : k ∉ met) : nstep (met, acc) k = (met ++ [k], acc ++ [(met.length : Int)]) := by simp [nstep, h]
def nBody : CSs := (.cons (.ite (.cmp .notIn (.var 3) (.var 1)) (.cons (.put 1 (.var 3) (.bi .len (.cons (.var 1) .nil))) .nil) .nil) (.cons (.append 2 (.idx (.var 1) (.var 3))) .nil))
theorem small_of {n : Nat} (h : n ≤ 1000000) : small n = true := by
  unfold small most
  exact decide_eq_true (by omega)
theorem n_turn {Φ : Fns} {ms : PyData} {met : List NK} {acc : List Int} {k : NK} (h : ∀ m ∈ k :: met, okKey m = true) (hl : met.length ≤ 100000) (ha : acc.length ≤ 100000) :
    exs Φ nBody [.d ms, .dic (kvsOf met), .lst (acc.map .int), .d k.data] = .ok .nx [.d ms, .dic (kvsOf (nstep (met, acc) k).1), .lst ((nstep (met, acc) k).2.map .int), .d k.data] := by
  have hk := key_tup h
  have s1 : small (met.length + 1) = true := small_of (by omega)
  have s2 : small (acc.length + 1) = true := small_of (by omega)
  by_cases hm : k ∈ met
  · rw [nstep_mem hm]
    simp [run, exs, x_set, x_own, x_unpack, x_par, x_put, x_append, x_pop, x_popTo, x_expr, x_ret, x_retN, x_ite, x_wh, x_for, x_brk, x_cont, x_pass, ev, evs, evI, o_list, o_listOf, o_dict0, startE, view_d, view_o, freeze_d, both_s, ix_l, ix_t, at0, at1, at2, cmpD, eqD, truE_b, sh_none, sh_bool, sh_int, sh_end, sh_pick, sh_throw, eqv_str, eqv_int, ne1, ne2, ne3, ne4, ne5, ne6, slot_l, slot_d, slot_k, look_f, look_t, seq_l, seq_t, list_l, asl_l, asl_t, freezeAll, VI.views, nBody, in_dict, hk, kvs_look, hm, isLst, ix_dict, onLst, s2]
  · rw [nstep_new hm]
    have hm' : ∀ m ∈ k :: (met ++ [k]), okKey m = true := fun m hmm => by
      simp at hmm
      rcases hmm with rfl | h1 | rfl
      · exact h _ List.mem_cons_self
      · exact h _ (List.mem_cons_of_mem _ h1)
      · exact h _ List.mem_cons_self
    have hk' := key_tup hm'
    have e1 := kvs_put hm
    simp [run, exs, x_set, x_own, x_unpack, x_par, x_put, x_append, x_pop, x_popTo, x_expr, x_ret, x_retN, x_ite, x_wh, x_for, x_brk, x_cont, x_pass, ev, evs, evI, o_list, o_listOf, o_dict0, startE, view_d, view_o, freeze_d, both_s, ix_l, ix_t, at0, at1, at2, cmpD, eqD, truE_b, sh_none, sh_bool, sh_int, sh_end, sh_pick, sh_throw, eqv_str, eqv_int, ne1, ne2, ne3, ne4, ne5, ne6, slot_l, slot_d, slot_k, look_f, look_t, seq_l, seq_t, list_l, asl_l, asl_t, freezeAll, VI.views, nBody, in_dict, hk, kvs_look, hm, isOwn, len_dict, kvs_len, biD, on1, putE, s1, e1, isLst, ix_dict, hk', onLst, s2, idx_new hm]
theorem numbered {Φ : Fns} (ks : List NK) (hk : ∀ k ∈ ks, okKey k = true) (hl : ks.length ≤ 100000) : run Φ A3 [.list (ks.map NestedKey.data)] = .ok (.list ((numb ks).map .int)) := by
  obtain ⟨ρ', e, acc, met, s3, h1, h2⟩ := frl_inv (Φ := Φ) (tg := .name 3) (b := nBody) NestedKey.data
    (fun xs ρ => ∃ acc met s3, ρ = [.d (.list (ks.map NestedKey.data)), .dic (kvsOf met), .lst (acc.map .int), s3] ∧ (xs.foldl nstep (met, acc)).2 = numb ks ∧ (∀ m ∈ met, okKey m = true) ∧ (∀ m ∈ xs, okKey m = true) ∧ met.length + xs.length ≤ 100000 ∧ acc.length + xs.length ≤ 100000)
    (fun x xs ρ h => by
      obtain ⟨acc, met, s3, rfl, h1, h2, h3, h4, h5⟩ := h
      have hm : ∀ m ∈ x :: met, okKey m = true := fun m hm => (List.mem_cons.mp hm).elim (fun e => by rw [e]; exact h3 x List.mem_cons_self) (h2 m)
      simp at h4 h5
      refine ⟨_, _, rfl, n_turn (Φ := Φ) hm (by omega) (by omega), _, _, _, rfl, by simpa using h1, ?_, fun m hm => h3 m (List.mem_cons_of_mem _ hm), ?_, ?_⟩
      · intro m hmm
        unfold nstep at hmm
        split at hmm
        · exact h2 m hmm
        · simp at hmm
          rcases hmm with h | rfl
          · exact h2 m h
          · exact h3 _ List.mem_cons_self
      · unfold nstep
        split <;> simp <;> omega
      · unfold nstep
        split <;> simp <;> omega)
    ks [.d (.list (ks.map NestedKey.data)), .dic [], .lst [], .unb] ⟨[], [], .unb, rfl, rfl, by simp, hk, by simpa using hl, by simpa using hl⟩
  simp only [List.foldl_nil] at h2
  subst h1
  have e' : frl Φ (.name 3) (.cons (.ite (.cmp .notIn (.var 3) (.var 1)) (.cons (.put 1 (.var 3) (.bi .len (.cons (.var 1) .nil))) .nil) .nil) (.cons (.append 2 (.idx (.var 1) (.var 3))) .nil)) (ks.map NestedKey.data) [.d (.list (ks.map NestedKey.data)), .dic [], .lst [], .unb] = _ := e
  simp [run, exs, x_set, x_own, x_unpack, x_par, x_put, x_append, x_pop, x_popTo, x_expr, x_ret, x_retN, x_ite, x_wh, x_for, x_brk, x_cont, x_pass, ev, evs, evI, o_list, o_listOf, o_dict0, startE, view_d, view_o, freeze_d, both_s, ix_l, ix_t, at0, at1, at2, cmpD, eqD, truE_b, sh_none, sh_bool, sh_int, sh_end, sh_pick, sh_throw, eqv_str, eqv_int, ne1, ne2, ne3, ne4, ne5, ne6, slot_l, slot_d, slot_k, look_f, look_t, seq_l, seq_t, list_l, asl_l, asl_t, freezeAll, VI.views, A3, e', h2.1, freeze_l]
/-! ### shares_by -/
def cl (nums : List Int) (g : Int) : Int := nums.getD g.toNat 0
def putw (l : List (Int × Int)) (c v : Int) : List (Int × Int) := if (l.any fun p => decide (p.1 = c)) = true then l.map (fun p => if p.1 = c then (p.1, v) else p) else l ++ [(c, v)]
def lk (l : List (Int × Int)) (c : Int) : Int := ((l.find? fun p => decide (p.1 = c)).map (·.2)).getD 0
def kvN (l : List (Int × Int)) : List (NK × PyData) := l.map fun p => (.num p.1, .int p.2)
def assoc (nums : List Int) (ws : List (Int × Int)) (l : List (Int × Int)) : List (Int × Int) := ws.foldl (fun l p => putw l (cl nums p.2) (lk l (cl nums p.2) + p.1)) l
theorem kvN_key (l : List (Int × Int)) (c : Int) : dKey (kvN l) (.int c) = some (.num c) := by
  have hk : kindOk (kvN l) (.num c) = true := by
    show ((kvN l).all fun p => !isTupK p.1) = true
    rw [List.all_eq_true]
    intro p hp
    obtain ⟨q, _, rfl⟩ := List.mem_map.mp hp
    rfl
  simp [dKey, keyOf, hk]
theorem kvN_look (l : List (Int × Int)) (c : Int) : dLook (kvN l) (.num c) = ((l.find? fun p => decide (p.1 = c)).map fun p => .int p.2) := by
  unfold dLook kvN
  rw [List.find?_map]
  simp [Function.comp_def]
theorem kvN_get (l : List (Int × Int)) (c : Int) : (dLook (kvN l) (.num c)).getD (.int 0) = .int (lk l c) := by
  rw [kvN_look]
  unfold lk
  cases l.find? (fun p => decide (p.1 = c)) <;> rfl
theorem kvN_put (l : List (Int × Int)) (c v : Int) : dPut (kvN l) (.num c) (.int v) = kvN (putw l c v) := by
  unfold dPut putw
  have e : ((kvN l).any fun p => decide (p.1 = .num c)) = (l.any fun p => decide (p.1 = c)) := by
    simp [kvN, List.any_map, Function.comp_def]
  rw [e]
  split
  · simp only [kvN, List.map_map]
    apply List.map_congr_left
    intro p _
    simp only [Function.comp]
    by_cases h : p.1 = c <;> simp [h]
  · simp [kvN]
theorem putw_len (l : List (Int × Int)) (c v : Int) : (putw l c v).length ≤ l.length + 1 := by
  unfold putw
  split <;> simp
theorem kvN_len (l : List (Int × Int)) : (kvN l).length = l.length := by simp [kvN]
theorem intsOf_map {α : Type} (f : α → Int) : ∀ l : List α, intsOf (l.map fun x => .int (f x)) = some (l.map f)
  | [] => rfl
  | x :: l => by simp [intsOf, intsOf_map f l]
theorem numKeys_kvN : ∀ l : List (Int × Int), numKeys (kvN l) = some (l.map (·.1))
  | [] => rfl
  | x :: l => by
    have := numKeys_kvN l
    simp only [kvN] at this
    simp [kvN, numKeys, this]
theorem sorted_dict (l : List (Int × Int)) : sortedB (dictOf (kvN l)) = some (.list ((sortI (l.map (·.1))).map .int)) := by
  simp [sortedB, und_of, undict_of, numKeys_kvN]
def sh (w b : Int) : Int × Int := (w / (Nat.gcd w.toNat b.toNat : Nat), b / (Nat.gcd w.toNat b.toNat : Nat))
def sBody : CSs := (.cons (.put 3 (.idx (.var 1) (.var 5)) (.bin .add (.get2 (.var 3) (.idx (.var 1) (.var 5)) (.lit (.int 0))) (.var 4))) .nil)
theorem at_cl {nums : List Int} {g : Int} (h : 0 ≤ g ∧ g < nums.length) : L2.atI (nums.map PyData.int) g = some (.int (cl nums g)) := by
  obtain ⟨h1, h2⟩ := h
  obtain ⟨n, rfl⟩ : ∃ n : Nat, g = n := ⟨g.toNat, by omega⟩
  have hl : n < nums.length := by omega
  rw [at_nat]
  simp [cl, List.getD_eq_getElem?_getD, hl]
theorem s_turn {Φ : Fns} {pl : PyData} {nums : List Int} {wh : Int} {l : List (Int × Int)} {w g : Int} {a b : SV} (h : 0 ≤ g ∧ g < nums.length) (hl : l.length ≤ 100000) :
    exs Φ sBody [.d pl, .d (.list (nums.map .int)), .d (.int wh), .dic (kvN l), .d (.int w), .d (.int g), a, b] = .ok .nx [.d pl, .d (.list (nums.map .int)), .d (.int wh), .dic (kvN (putw l (cl nums g) (lk l (cl nums g) + w))), .d (.int w), .d (.int g), a, b] := by
  have s1 : small (l.length + 1) = true := small_of (by omega)
  have e1 := at_cl h
  have ty : tyD (dictOf (kvN l)) = .dict := rfl
  simp [run, exs, x_set, x_own, x_unpack, x_par, x_put, x_append, x_pop, x_popTo, x_expr, x_ret, x_retN, x_ite, x_wh, x_for, x_brk, x_cont, x_pass, ev, evs, evI, o_list, o_listOf, o_dict0, startE, view_d, view_o, freeze_d, both_s, ix_l, ix_t, at0, at1, at2, cmpD, eqD, truE_b, sh_none, sh_bool, sh_int, sh_end, sh_pick, sh_throw, eqv_str, eqv_int, ne1, ne2, ne3, ne4, ne5, ne6, slot_l, slot_d, slot_k, look_f, look_t, seq_l, seq_t, list_l, asl_l, asl_t, freezeAll, VI.views, sBody, e1, ty, get_dict, kvN_key, kvN_get, binD, addD, isOwn, putE, kvN_len, s1, kvN_put]
def wsum (ws : List (Int × Int)) : Int := (ws.map fun p => p.1).sum
def wkeys (nums : List Int) (ws : List (Int × Int)) : List Int := sortI ((assoc nums ws []).map fun p => p.1)
def Okw (N : Nat) (ws : List (Int × Int)) : Prop := ∀ p ∈ ws, 0 < p.1 ∧ p.1 < 2 ^ 40 ∧ 0 ≤ p.2 ∧ p.2 < N
theorem putw_nn {l : List (Int × Int)} {c v : Int} (h : ∀ p ∈ l, 0 ≤ p.2) (hv : 0 ≤ v) : ∀ p ∈ putw l c v, 0 ≤ p.2 := by
  unfold putw
  split
  · intro p hp
    obtain ⟨q, hq, rfl⟩ := List.mem_map.mp hp
    split
    · exact hv
    · exact h q hq
  · intro p hp
    simp at hp
    rcases hp with hp | rfl
    · exact h p hp
    · exact hv
theorem lk_nn {l : List (Int × Int)} (h : ∀ p ∈ l, 0 ≤ p.2) (c : Int) : 0 ≤ lk l c := by
  unfold lk
  cases e : l.find? (fun p => decide (p.1 = c)) with
  | none => simp
  | some p =>
    have := List.mem_of_find?_eq_some e
    simpa using h p this
theorem assoc_nn (nums : List Int) : ∀ (ws : List (Int × Int)) (l : List (Int × Int)), (∀ p ∈ ws, 0 < p.1) → (∀ p ∈ l, 0 ≤ p.2) → ∀ p ∈ assoc nums ws l, 0 ≤ p.2
  | [], l, _, h => h
  | w :: ws, l, hw, h => by
    show ∀ p ∈ assoc nums ws (putw l (cl nums w.2) (lk l (cl nums w.2) + w.1)), 0 ≤ p.2
    have h1 := hw w List.mem_cons_self
    have h2 := lk_nn h (cl nums w.2)
    exact assoc_nn nums ws _ (fun p hp => hw p (List.mem_cons_of_mem _ hp)) (putw_nn h (by omega))
theorem sum_pos : ∀ ws : List (Int × Int), (∀ p ∈ ws, 0 < p.1 ∧ p.1 < 2 ^ 40) → (ws.length : Int) ≤ (wsum ws) ∧ (wsum ws) ≤ ws.length * 2 ^ 40
  | [], _ => by simp [wsum]
  | w :: ws, h => by
    have h1 := h w List.mem_cons_self
    have h2 := sum_pos ws fun p hp => h p (List.mem_cons_of_mem _ hp)
    simp only [wsum, List.map_cons, List.sum_cons, List.length_cons] at h2 ⊢
    omega
theorem shares_by {Φ : Fns} (v : Int × Int) (ws : List (Int × Int)) (nums : List Int) (hw : Okw nums.length ws) (hl : ws.length ≤ 1000) (hne : ws ≠ [])
    (h2 : ∀ t b : Nat, 0 < b → b < 2 ^ 64 → Φ 2 [.int t, .int b] = .ok (pairD ((t : Int) / (Nat.gcd t b : Nat), (b : Int) / (Nat.gcd t b : Nat)))) :
    run Φ A4 [(Pl.throw v ws).enc, .list (nums.map .int)] = .ok (.tuple ((wkeys nums ws).map fun k => .tuple [.int k, pairD (sh (lk (assoc nums ws []) k) (wsum ws))])) := by
  have hm : (1000 : Nat) ≤ most := by decide
  have c1 : evO Φ (.comp (.idx (.var 6) (.lit (.int 0))) (.name 6) (.seq (.idx (.var 0) (.lit (.int 2)))) (.lit (.bool true)) [6]) [.d (Pl.throw v ws).enc, .d (.list (nums.map .int)), .unb, .unb, .unb, .unb, .unb, .unb] = .ok (.lst (ws.map fun p => .int p.1)) [.d (Pl.throw v ws).enc, .d (.list (nums.map .int)), .unb, .unb, .unb, .unb, .unb, .unb] := by
    refine ev_comp1 (ys := ws) pairD (fun p => .int p.1) (by simp [run, exs, x_set, x_own, x_unpack, x_par, x_put, x_append, x_pop, x_popTo, x_expr, x_ret, x_retN, x_ite, x_wh, x_for, x_brk, x_cont, x_pass, ev, evs, evI, o_list, o_listOf, o_dict0, startE, view_d, view_o, freeze_d, both_s, ix_l, ix_t, at0, at1, at2, cmpD, eqD, truE_b, sh_none, sh_bool, sh_int, sh_end, sh_pick, sh_throw, eqv_str, eqv_int, ne1, ne2, ne3, ne4, ne5, ne6, slot_l, slot_d, slot_k, look_f, look_t, seq_l, seq_t, list_l, asl_l, asl_t, freezeAll, VI.views, Pl.enc]) (by simp [okWipe, plainS]) (by omega) fun x hx => ⟨[.d (Pl.throw v ws).enc, .d (.list (nums.map .int)), .unb, .unb, .unb, .unb, .d (pairD x), .unb], ?_, ?_, ?_⟩
    · simp [asg, wipeE]
    · simp [wipeE]
    · simp [run, exs, x_set, x_own, x_unpack, x_par, x_put, x_append, x_pop, x_popTo, x_expr, x_ret, x_retN, x_ite, x_wh, x_for, x_brk, x_cont, x_pass, ev, evs, evI, o_list, o_listOf, o_dict0, startE, view_d, view_o, freeze_d, both_s, ix_l, ix_t, at0, at1, at2, cmpD, eqD, truE_b, sh_none, sh_bool, sh_int, sh_end, sh_pick, sh_throw, eqv_str, eqv_int, ne1, ne2, ne3, ne4, ne5, ne6, slot_l, slot_d, slot_k, look_f, look_t, seq_l, seq_t, list_l, asl_l, asl_t, freezeAll, VI.views, pairD]
  have iw := intsOf_map (fun p : Int × Int => p.1) ws
  obtain ⟨ρ', e, l, s4, s5, h1, h3, h4⟩ := frl_inv (Φ := Φ) (tg := .tup [4, 5]) (b := sBody) pairD
    (fun xs ρ => ∃ l s4 s5, ρ = [.d (Pl.throw v ws).enc, .d (.list (nums.map .int)), .d (.int (wsum ws)), .dic (kvN l), s4, s5, .unb, .unb] ∧ assoc nums xs l = assoc nums ws [] ∧ l.length + xs.length ≤ 1000 ∧ Okw nums.length xs)
    (fun x xs ρ h => by
      obtain ⟨l, s4, s5, rfl, h1, h2, h3⟩ := h
      have hx := h3 x List.mem_cons_self
      simp at h2
      refine ⟨_, _, by simp [asg, pairD, setAll], s_turn (Φ := Φ) ⟨hx.2.2.1, hx.2.2.2⟩ (by omega), _, _, _, rfl, h1, ?_, fun p hp => h3 p (List.mem_cons_of_mem _ hp)⟩
      have := putw_len l (cl nums x.2) (lk l (cl nums x.2) + x.1)
      omega)
    ws [.d (Pl.throw v ws).enc, .d (.list (nums.map .int)), .d (.int (wsum ws)), .dic [], .unb, .unb, .unb, .unb] ⟨[], .unb, .unb, rfl, rfl, by simpa using hl, hw⟩
  have h3 : l = assoc nums ws [] := h3
  subst h3
  subst h1
  have nn := assoc_nn nums ws [] (fun p hp => (hw p hp).1) (by simp)
  have sp := sum_pos ws fun p hp => ⟨(hw p hp).1, (hw p hp).2.1⟩
  have wl : 0 < ws.length := List.length_pos_iff.mpr hne
  have wl2 : (ws.length : Int) ≤ 1000 := by omega
  have hwh : 0 < (wsum ws) ∧ (wsum ws) < 2 ^ 64 := by omega
  have ml : ∀ (l : List (Int × Int)) (ws : List (Int × Int)), (assoc nums ws l).length ≤ l.length + ws.length := by
    intro l ws
    induction ws generalizing l with
    | nil => simp [assoc]
    | cons w ws ih =>
      have h1 := ih (putw l (cl nums w.2) (lk l (cl nums w.2) + w.1))
      have h2 := putw_len l (cl nums w.2) (lk l (cl nums w.2) + w.1)
      show (assoc nums ws (putw l (cl nums w.2) (lk l (cl nums w.2) + w.1))).length ≤ _
      simp
      omega
  have mll := ml [] ws
  have srt : (wkeys nums ws).length = (assoc nums ws []).length := by simp [wkeys, sortI]
  have mem : ∀ k ∈ wkeys nums ws, (dLook (kvN (assoc nums ws [])) (.num k)) = some (.int (lk (assoc nums ws []) k)) := by
    intro k hk
    have hk : k ∈ (assoc nums ws []).map fun p => p.1 := (List.mergeSort_perm _ _).mem_iff.mp hk
    obtain ⟨p, hp, rfl⟩ := List.mem_map.mp hk
    rw [kvN_look]
    unfold lk
    cases e : (assoc nums ws []).find? (fun q => decide (q.1 = p.1)) with
    | none =>
      rw [List.find?_eq_none] at e
      have := e p hp
      simp at this
    | some q => rfl
  have c2 : evO Φ (.comp (.tuple (.cons (.var 7) (.cons (.call 2 (.cons (.idx (.var 3) (.var 7)) (.cons (.var 2) .nil))) .nil))) (.name 7) (.seq (.bi .sorted (.cons (.var 3) .nil))) (.lit (.bool true)) [7])
      [.d (Pl.throw v ws).enc, .d (.list (nums.map .int)), .d (.int (wsum ws)), .dic (kvN (assoc nums ws [])), s4, s5, .unb, .unb] =
      .ok (.lst ((wkeys nums ws).map fun k => .tuple [.int k, pairD (sh (lk (assoc nums ws []) k) (wsum ws))])) [.d (Pl.throw v ws).enc, .d (.list (nums.map .int)), .d (.int (wsum ws)), .dic (kvN (assoc nums ws [])), s4, s5, .unb, .unb] := by
    refine ev_comp1 (ys := wkeys nums ws) PyData.int (fun k => .tuple [.int k, pairD (sh (lk (assoc nums ws []) k) (wsum ws))]) (by simp [run, exs, x_set, x_own, x_unpack, x_par, x_put, x_append, x_pop, x_popTo, x_expr, x_ret, x_retN, x_ite, x_wh, x_for, x_brk, x_cont, x_pass, ev, evs, evI, o_list, o_listOf, o_dict0, startE, view_d, view_o, freeze_d, both_s, ix_l, ix_t, at0, at1, at2, cmpD, eqD, truE_b, sh_none, sh_bool, sh_int, sh_end, sh_pick, sh_throw, eqv_str, eqv_int, ne1, ne2, ne3, ne4, ne5, ne6, slot_l, slot_d, slot_k, look_f, look_t, seq_l, seq_t, list_l, asl_l, asl_t, freezeAll, VI.views, biD, on1, sorted_dict, wkeys]) (by simp [okWipe, plainS]) (by simp only [List.length_nil] at mll; omega) fun k hk =>
      ⟨[.d (Pl.throw v ws).enc, .d (.list (nums.map .int)), .d (.int (wsum ws)), .dic (kvN (assoc nums ws [])), s4, s5, .unb, .d (.int k)], ?_, ?_, ?_⟩
    · simp [asg, wipeE]
    · simp [wipeE]
    · have n1 := lk_nn nn k
      have hc := h2 (lk (assoc nums ws []) k).toNat (wsum ws).toNat (by omega) (by omega)
      rw [Int.toNat_of_nonneg n1, Int.toNat_of_nonneg (by omega)] at hc
      simp [run, exs, x_set, x_own, x_unpack, x_par, x_put, x_append, x_pop, x_popTo, x_expr, x_ret, x_retN, x_ite, x_wh, x_for, x_brk, x_cont, x_pass, ev, evs, evI, o_list, o_listOf, o_dict0, startE, view_d, view_o, freeze_d, both_s, ix_l, ix_t, at0, at1, at2, cmpD, eqD, truE_b, sh_none, sh_bool, sh_int, sh_end, sh_pick, sh_throw, eqv_str, eqv_int, ne1, ne2, ne3, ne4, ne5, ne6, slot_l, slot_d, slot_k, look_f, look_t, seq_l, seq_t, list_l, asl_l, asl_t, freezeAll, VI.views, ix_dict, kvN_key, mem k hk, hc, callE, isScalar, pairD, sh]
  have e' : frl Φ (.tup [4, 5]) (.cons (.put 3 (.idx (.var 1) (.var 5)) (.bin .add (.get2 (.var 3) (.idx (.var 1) (.var 5)) (.lit (.int 0))) (.var 4))) .nil) (ws.map pairD) _ = _ := e
  simp only [Pl.enc] at c1 c2 e'
  have iw' : sumB (.list (ws.map fun p => .int p.1)) = some (.int (wsum ws)) := by simp [sumB, intsIn, iw, wsum]
  simp [run, exs, x_set, x_own, x_unpack, x_par, x_put, x_append, x_pop, x_popTo, x_expr, x_ret, x_retN, x_ite, x_wh, x_for, x_brk, x_cont, x_pass, ev, evs, evI, o_list, o_listOf, o_dict0, startE, view_d, view_o, freeze_d, both_s, ix_l, ix_t, at0, at1, at2, cmpD, eqD, truE_b, sh_none, sh_bool, sh_int, sh_end, sh_pick, sh_throw, eqv_str, eqv_int, ne1, ne2, ne3, ne4, ne5, ne6, slot_l, slot_d, slot_k, look_f, look_t, seq_l, seq_t, list_l, asl_l, asl_t, freezeAll, VI.views, A4, Pl.enc, c1, biD, on1, iw', e', c2, tupleB]
/-! ### marks -/
def OkP (N : Nat) : Pl → Prop
  | .fin _ => True
  | .pick _ gs => gs.length < 64 ∧ ∀ g ∈ gs, 0 ≤ g ∧ g < N
  | .throw _ ws => Okw N ws ∧ ws.length ≤ 1000 ∧ ws ≠ []
def shK (nums : List Int) (ws : List (Int × Int)) (k : Int) : NK := .tup [.num k, .tup [.num (sh (lk (assoc nums ws []) k) (wsum ws)).1, .num (sh (lk (assoc nums ws []) k) (wsum ws)).2]]
def inner (nums : List Int) : Pl → NK
  | .throw _ ws => .tup ((wkeys nums ws).map (shK nums ws))
  | .pick _ gs => .tup ((sortI (unlike (gs.map (cl nums)))).map .num)
  | .fin _ => .tup []
def mark (nums : List Int) (p : Pl) (n : Int) : NK := .tup [.num n, inner nums p]
theorem datas_map {α : Type} (f : α → NK) : ∀ l : List α, NestedKey.datas (l.map f) = l.map fun x => (f x).data
  | [] => rfl
  | x :: l => by simp [NestedKey.datas, datas_map f l]
theorem inner_throw (nums : List Int) (v : Int × Int) (ws : List (Int × Int)) : (inner nums (.throw v ws)).data = .tuple ((wkeys nums ws).map fun k => .tuple [.int k, pairD (sh (lk (assoc nums ws []) k) (wsum ws))]) := by
  simp [inner, NestedKey.data, datas_map, shK, NestedKey.datas, pairD]
theorem mark_data (nums : List Int) (p : Pl) (n : Int) : (mark nums p n).data = .tuple [.int n, (inner nums p).data] := by
  simp [mark, NestedKey.data, NestedKey.datas]
theorem depthAll_le {d : Nat} : ∀ (l : List NK), (∀ k ∈ l, k.depth ≤ d) → NestedKey.depthAll l ≤ d
  | [], _ => by simp [NestedKey.depthAll]
  | k :: l, h => by
    have h1 := h k List.mem_cons_self
    have h2 := depthAll_le l fun x hx => h x (List.mem_cons_of_mem _ hx)
    simp [NestedKey.depthAll]
    omega
theorem mark_ok (nums : List Int) (p : Pl) (n : Int) : okKey (mark nums p n) = true := by
  have hi : (inner nums p).depth ≤ 4 := by
    cases p with
    | fin v => simp [inner, NestedKey.depth, NestedKey.depthAll]
    | pick q gs =>
      have := depthAll_le (d := 1) ((sortI (unlike (gs.map (cl nums)))).map .num) fun k hk => by
        obtain ⟨i, _, rfl⟩ := List.mem_map.mp hk
        simp [NestedKey.depth]
      simp [inner, NestedKey.depth]
      omega
    | throw v ws =>
      have := depthAll_le (d := 3) ((wkeys nums ws).map (shK nums ws)) fun k hk => by
        obtain ⟨i, _, rfl⟩ := List.mem_map.mp hk
        simp [shK, NestedKey.depth, NestedKey.depthAll]
      simp [inner, NestedKey.depth]
      omega
  unfold okKey mark
  simp only
  apply decide_eq_true
  simp [NestedKey.depth, NestedKey.depthAll]
  omega
theorem mark_of {Φ : Fns} {p : Pl} {n : Int} {nums : List Int} (hp : OkP nums.length p) (h0 : ∀ p : Pl, p.goals.length ≤ most → Φ 0 [p.enc] = .ok (.list (p.goals.map .int)))
    (h4 : ∀ v ws, Okw nums.length ws → ws.length ≤ 1000 → ws ≠ [] → Φ 4 [(Pl.throw v ws).enc, .list (nums.map .int)] = .ok (inner nums (.throw v ws)).data) :
    run Φ A5 [p.enc, .int n, .list (nums.map .int)] = .ok (mark nums p n).data := by
  rw [mark_data]
  have hm : (64 : Nat) ≤ most := by decide
  cases p with
  | throw v ws =>
    have := h4 v ws hp.1 hp.2.1 hp.2.2
    simp only [Pl.enc] at this
    have hsc : isScalar (inner nums (.throw v ws)).data = false := by rw [inner_throw]; rfl
    simp [run, exs, x_set, x_own, x_unpack, x_par, x_put, x_append, x_pop, x_popTo, x_expr, x_ret, x_retN, x_ite, x_wh, x_for, x_brk, x_cont, x_pass, ev, evs, evI, o_list, o_listOf, o_dict0, startE, view_d, view_o, freeze_d, both_s, ix_l, ix_t, at0, at1, at2, cmpD, eqD, truE_b, sh_none, sh_bool, sh_int, sh_end, sh_pick, sh_throw, eqv_str, eqv_int, ne1, ne2, ne3, ne4, ne5, ne6, slot_l, slot_d, slot_k, look_f, look_t, seq_l, seq_t, list_l, asl_l, asl_t, freezeAll, VI.views, A5, Pl.enc, this, callE, hsc]
  | pick q gs =>
    have hl : gs.length ≤ most := by have := hp.1; omega
    have hg := h0 (.pick q gs) hl
    have c : evO Φ (.comp (.idx (.var 2) (.var 3)) (.name 3) (.seq (.call 0 (.cons (.var 0) .nil))) (.lit (.bool true)) [3]) [.d (Pl.pick q gs).enc, .d (.int n), .d (.list (nums.map .int)), .unb] = .ok (.lst (gs.map fun g => .int (cl nums g))) [.d (Pl.pick q gs).enc, .d (.int n), .d (.list (nums.map .int)), .unb] := by
      refine ev_comp1 (ys := gs) PyData.int (fun g => .int (cl nums g)) (by simp [run, exs, x_set, x_own, x_unpack, x_par, x_put, x_append, x_pop, x_popTo, x_expr, x_ret, x_retN, x_ite, x_wh, x_for, x_brk, x_cont, x_pass, ev, evs, evI, o_list, o_listOf, o_dict0, startE, view_d, view_o, freeze_d, both_s, ix_l, ix_t, at0, at1, at2, cmpD, eqD, truE_b, sh_none, sh_bool, sh_int, sh_end, sh_pick, sh_throw, eqv_str, eqv_int, ne1, ne2, ne3, ne4, ne5, ne6, slot_l, slot_d, slot_k, look_f, look_t, seq_l, seq_t, list_l, asl_l, asl_t, freezeAll, VI.views, hg, callE, isScalar, Pl.goals]) (by simp [okWipe, plainS]) hl fun g hg => ⟨[.d (Pl.pick q gs).enc, .d (.int n), .d (.list (nums.map .int)), .d (.int g)], ?_, ?_, ?_⟩
      · simp [asg, wipeE]
      · simp [wipeE]
      · have := at_cl (hp.2 g hg)
        simp [run, exs, x_set, x_own, x_unpack, x_par, x_put, x_append, x_pop, x_popTo, x_expr, x_ret, x_retN, x_ite, x_wh, x_for, x_brk, x_cont, x_pass, ev, evs, evI, o_list, o_listOf, o_dict0, startE, view_d, view_o, freeze_d, both_s, ix_l, ix_t, at0, at1, at2, cmpD, eqD, truE_b, sh_none, sh_bool, sh_int, sh_end, sh_pick, sh_throw, eqv_str, eqv_int, ne1, ne2, ne3, ne4, ne5, ne6, slot_l, slot_d, slot_k, look_f, look_t, seq_l, seq_t, list_l, asl_l, asl_t, freezeAll, VI.views, this]
    have hs : sortedSetB (.list (gs.map fun g => .int (cl nums g))) = some (.list ((sortI (unlike (gs.map (cl nums)))).map .int)) := by
      have := intsOf_map (cl nums) gs
      have hlt := hp.1
      simp [sortedSetB, intsIn, this, hlt]
    simp only [Pl.enc] at c
    simp [run, exs, x_set, x_own, x_unpack, x_par, x_put, x_append, x_pop, x_popTo, x_expr, x_ret, x_retN, x_ite, x_wh, x_for, x_brk, x_cont, x_pass, ev, evs, evI, o_list, o_listOf, o_dict0, startE, view_d, view_o, freeze_d, both_s, ix_l, ix_t, at0, at1, at2, cmpD, eqD, truE_b, sh_none, sh_bool, sh_int, sh_end, sh_pick, sh_throw, eqv_str, eqv_int, ne1, ne2, ne3, ne4, ne5, ne6, slot_l, slot_d, slot_k, look_f, look_t, seq_l, seq_t, list_l, asl_l, asl_t, freezeAll, VI.views, A5, Pl.enc, c, biD, on1, hs, tupleB, inner, NestedKey.data, datas_map]
  | fin v =>
    have hg := h0 (.fin v) (by simp [Pl.goals])
    have c : evO Φ (.comp (.idx (.var 2) (.var 3)) (.name 3) (.seq (.call 0 (.cons (.var 0) .nil))) (.lit (.bool true)) [3]) [.d (Pl.fin v).enc, .d (.int n), .d (.list (nums.map .int)), .unb] = .ok (.lst (([] : List Int).map fun g => .int (cl nums g))) [.d (Pl.fin v).enc, .d (.int n), .d (.list (nums.map .int)), .unb] := by
      refine ev_comp1 (ys := ([] : List Int)) PyData.int (fun g => .int (cl nums g)) (by simp [run, exs, x_set, x_own, x_unpack, x_par, x_put, x_append, x_pop, x_popTo, x_expr, x_ret, x_retN, x_ite, x_wh, x_for, x_brk, x_cont, x_pass, ev, evs, evI, o_list, o_listOf, o_dict0, startE, view_d, view_o, freeze_d, both_s, ix_l, ix_t, at0, at1, at2, cmpD, eqD, truE_b, sh_none, sh_bool, sh_int, sh_end, sh_pick, sh_throw, eqv_str, eqv_int, ne1, ne2, ne3, ne4, ne5, ne6, slot_l, slot_d, slot_k, look_f, look_t, seq_l, seq_t, list_l, asl_l, asl_t, freezeAll, VI.views, hg, callE, isScalar, Pl.goals]) (by simp [okWipe, plainS]) (by simp) fun g hg => by simp at hg
    have hs : sortedSetB (.list []) = some (.list []) := by
      simp [sortedSetB, intsIn, intsOf, unlike, sortI]
    simp only [Pl.enc, List.map_nil] at c
    simp [run, exs, x_set, x_own, x_unpack, x_par, x_put, x_append, x_pop, x_popTo, x_expr, x_ret, x_retN, x_ite, x_wh, x_for, x_brk, x_cont, x_pass, ev, evs, evI, o_list, o_listOf, o_dict0, startE, view_d, view_o, freeze_d, both_s, ix_l, ix_t, at0, at1, at2, cmpD, eqD, truE_b, sh_none, sh_bool, sh_int, sh_end, sh_pick, sh_throw, eqv_str, eqv_int, ne1, ne2, ne3, ne4, ne5, ne6, slot_l, slot_d, slot_k, look_f, look_t, seq_l, seq_t, list_l, asl_l, asl_t, freezeAll, VI.views, A5, Pl.enc, c, biD, on1, hs, tupleB, inner, NestedKey.data, NestedKey.datas]
def marks (bs : List Pl) (nums : List Int) : List NK := (bs.zip nums).map fun p => mark nums p.1 p.2
def step (bs : List Pl) (nums : List Int) : List Int := numb (marks bs nums)
theorem next_round {Φ : Fns} {bs : List Pl} {nums : List Int} (hb : ∀ p ∈ bs, OkP nums.length p) (hl : bs.length ≤ 1000)
    (h5 : ∀ p n, OkP nums.length p → Φ 5 [p.enc, .int n, .list (nums.map .int)] = .ok (mark nums p n).data)
    (h3 : ∀ ks : List NK, (∀ k ∈ ks, okKey k = true) → ks.length ≤ 100000 → Φ 3 [.list (ks.map NestedKey.data)] = .ok (.list ((numb ks).map .int))) :
    run Φ A6 [.list (bs.map Pl.enc), .list (nums.map .int)] = .ok (.list ((step bs nums).map .int)) := by
  have hm : (1000 : Nat) ≤ most := by decide
  have hz : (bs.zip nums).length ≤ 1000 := by simp; omega
  have c : evO Φ (.comp (.call 5 (.cons (.var 2) (.cons (.var 3) (.cons (.var 1) .nil)))) (.tup [2, 3]) (.zip (.var 0) (.var 1)) (.lit (.bool true)) [2, 3]) [.d (.list (bs.map Pl.enc)), .d (.list (nums.map .int)), .unb, .unb] =
      .ok (.lst ((bs.zip nums).map fun p => (mark nums p.1 p.2).data)) [.d (.list (bs.map Pl.enc)), .d (.list (nums.map .int)), .unb, .unb] := by
    refine ev_comp1 (ys := bs.zip nums) (fun p => .tuple [p.1.enc, .int p.2]) (fun p => (mark nums p.1 p.2).data) (by simp [run, exs, x_set, x_own, x_unpack, x_par, x_put, x_append, x_pop, x_popTo, x_expr, x_ret, x_retN, x_ite, x_wh, x_for, x_brk, x_cont, x_pass, ev, evs, evI, o_list, o_listOf, o_dict0, startE, view_d, view_o, freeze_d, both_s, ix_l, ix_t, at0, at1, at2, cmpD, eqD, truE_b, sh_none, sh_bool, sh_int, sh_end, sh_pick, sh_throw, eqv_str, eqv_int, ne1, ne2, ne3, ne4, ne5, ne6, slot_l, slot_d, slot_k, look_f, look_t, seq_l, seq_t, list_l, asl_l, asl_t, freezeAll, VI.views, zipD, List.zip_map]) (by simp [okWipe, plainS]) (by omega) fun p hp => ⟨[.d (.list (bs.map Pl.enc)), .d (.list (nums.map .int)), .d p.1.enc, .d (.int p.2)], ?_, ?_, ?_⟩
    · simp [asg, wipeE, setAll]
    · simp [wipeE]
    · have hq := h5 p.1 p.2 (hb p.1 (List.of_mem_zip hp).1)
      have hsc : isScalar (mark nums p.1 p.2).data = false := by rw [mark_data]; rfl
      simp [run, exs, x_set, x_own, x_unpack, x_par, x_put, x_append, x_pop, x_popTo, x_expr, x_ret, x_retN, x_ite, x_wh, x_for, x_brk, x_cont, x_pass, ev, evs, evI, o_list, o_listOf, o_dict0, startE, view_d, view_o, freeze_d, both_s, ix_l, ix_t, at0, at1, at2, cmpD, eqD, truE_b, sh_none, sh_bool, sh_int, sh_end, sh_pick, sh_throw, eqv_str, eqv_int, ne1, ne2, ne3, ne4, ne5, ne6, slot_l, slot_d, slot_k, look_f, look_t, seq_l, seq_t, list_l, asl_l, asl_t, freezeAll, VI.views, hq, callE, hsc]
  have e3 := h3 (marks bs nums) (fun k hk => by
    obtain ⟨q, _, rfl⟩ := List.mem_map.mp hk
    exact mark_ok _ _ _) (by simp [marks]; omega)
  have em : (marks bs nums).map NestedKey.data = (bs.zip nums).map fun p => (mark nums p.1 p.2).data := by simp [marks]
  rw [em] at e3
  simp [run, exs, x_set, x_own, x_unpack, x_par, x_put, x_append, x_pop, x_popTo, x_expr, x_ret, x_retN, x_ite, x_wh, x_for, x_brk, x_cont, x_pass, ev, evs, evI, o_list, o_listOf, o_dict0, startE, view_d, view_o, freeze_d, both_s, ix_l, ix_t, at0, at1, at2, cmpD, eqD, truE_b, sh_none, sh_bool, sh_int, sh_end, sh_pick, sh_throw, eqv_str, eqv_int, ne1, ne2, ne3, ne4, ne5, ne6, slot_l, slot_d, slot_k, look_f, look_t, seq_l, seq_t, list_l, asl_l, asl_t, freezeAll, VI.views, A6, c, e3, callE, isScalar, step]
/-! ### shifted -/
def Pl.shift (by_ : Int) : Pl → Pl
  | .fin v => .fin v
  | .pick q gs => .pick q (gs.map fun g => g + by_)
  | .throw v ws => .throw v (ws.map fun p => (p.1, p.2 + by_))
def hBody : CSs := (.cons (.ite (.cmp .eq (.idx (.var 3) (.lit (.int 0))) (.lit (.str ("throw" : Str)))) (.cons (.append 2 (.tuple (.cons (.lit (.str ("throw" : Str))) (.cons (.idx (.var 3) (.lit (.int 1))) (.cons (.fr (.comp (.tuple (.cons (.var 4) (.cons (.bin .add (.var 5) (.var 1)) .nil))) (.tup [4, 5]) (.seq (.idx (.var 3) (.lit (.int 2)))) (.lit (.bool true)) [4, 5])) .nil))))) .nil) (.cons (.ite (.cmp .eq (.idx (.var 3) (.lit (.int 0))) (.lit (.str ("pick" : Str)))) (.cons (.append 2 (.tuple (.cons (.lit (.str ("pick" : Str))) (.cons (.idx (.var 3) (.lit (.int 1))) (.cons (.fr (.comp (.bin .add (.var 5) (.var 1)) (.name 5) (.seq (.idx (.var 3) (.lit (.int 2)))) (.lit (.bool true)) [5])) .nil))))) .nil) (.cons (.append 2 (.var 3)) .nil)) .nil)) .nil)
theorem h_turn {Φ : Fns} {bd : PyData} {b : Int} {acc : List PyData} {p : Pl} (hl : p.goals.length ≤ most) (ha : acc.length ≤ 100000) :
    exs Φ hBody [.d bd, .d (.int b), .lst acc, .d p.enc, .unb, .unb] = .ok .nx [.d bd, .d (.int b), .lst (acc ++ [(Pl.shift b p).enc]), .d p.enc, .unb, .unb] := by
  have s2 : small (acc.length + 1) = true := small_of (by omega)
  cases p with
  | fin v => simp [run, exs, x_set, x_own, x_unpack, x_par, x_put, x_append, x_pop, x_popTo, x_expr, x_ret, x_retN, x_ite, x_wh, x_for, x_brk, x_cont, x_pass, ev, evs, evI, o_list, o_listOf, o_dict0, startE, view_d, view_o, freeze_d, both_s, ix_l, ix_t, at0, at1, at2, cmpD, eqD, truE_b, sh_none, sh_bool, sh_int, sh_end, sh_pick, sh_throw, eqv_str, eqv_int, ne1, ne2, ne3, ne4, ne5, ne6, slot_l, slot_d, slot_k, look_f, look_t, seq_l, seq_t, list_l, asl_l, asl_t, freezeAll, VI.views, hBody, Pl.enc, isLst, onLst, s2, Pl.shift]
  | pick q gs =>
    have c : evO Φ (.comp (.bin .add (.var 5) (.var 1)) (.name 5) (.seq (.idx (.var 3) (.lit (.int 2)))) (.lit (.bool true)) [5]) [.d bd, .d (.int b), .lst acc, .d (Pl.pick q gs).enc, .unb, .unb] = .ok (.lst (gs.map fun g => .int (g + b))) [.d bd, .d (.int b), .lst acc, .d (Pl.pick q gs).enc, .unb, .unb] := by
      refine ev_comp1 (ys := gs) PyData.int (fun g => .int (g + b)) (by simp [run, exs, x_set, x_own, x_unpack, x_par, x_put, x_append, x_pop, x_popTo, x_expr, x_ret, x_retN, x_ite, x_wh, x_for, x_brk, x_cont, x_pass, ev, evs, evI, o_list, o_listOf, o_dict0, startE, view_d, view_o, freeze_d, both_s, ix_l, ix_t, at0, at1, at2, cmpD, eqD, truE_b, sh_none, sh_bool, sh_int, sh_end, sh_pick, sh_throw, eqv_str, eqv_int, ne1, ne2, ne3, ne4, ne5, ne6, slot_l, slot_d, slot_k, look_f, look_t, seq_l, seq_t, list_l, asl_l, asl_t, freezeAll, VI.views, Pl.enc]) (by simp [okWipe, plainS]) (by simpa [Pl.goals] using hl) fun g hg => ⟨[.d bd, .d (.int b), .lst acc, .d (Pl.pick q gs).enc, .unb, .d (.int g)], ?_, ?_, ?_⟩
      · simp [asg, wipeE]
      · simp [wipeE]
      · simp [run, exs, x_set, x_own, x_unpack, x_par, x_put, x_append, x_pop, x_popTo, x_expr, x_ret, x_retN, x_ite, x_wh, x_for, x_brk, x_cont, x_pass, ev, evs, evI, o_list, o_listOf, o_dict0, startE, view_d, view_o, freeze_d, both_s, ix_l, ix_t, at0, at1, at2, cmpD, eqD, truE_b, sh_none, sh_bool, sh_int, sh_end, sh_pick, sh_throw, eqv_str, eqv_int, ne1, ne2, ne3, ne4, ne5, ne6, slot_l, slot_d, slot_k, look_f, look_t, seq_l, seq_t, list_l, asl_l, asl_t, freezeAll, VI.views, binD, addD]
    simp only [Pl.enc] at c
    simp [run, exs, x_set, x_own, x_unpack, x_par, x_put, x_append, x_pop, x_popTo, x_expr, x_ret, x_retN, x_ite, x_wh, x_for, x_brk, x_cont, x_pass, ev, evs, evI, o_list, o_listOf, o_dict0, startE, view_d, view_o, freeze_d, both_s, ix_l, ix_t, at0, at1, at2, cmpD, eqD, truE_b, sh_none, sh_bool, sh_int, sh_end, sh_pick, sh_throw, eqv_str, eqv_int, ne1, ne2, ne3, ne4, ne5, ne6, slot_l, slot_d, slot_k, look_f, look_t, seq_l, seq_t, list_l, asl_l, asl_t, freezeAll, VI.views, hBody, Pl.enc, isLst, onLst, s2, Pl.shift, c]
  | throw v ws =>
    have c : evO Φ (.comp (.tuple (.cons (.var 4) (.cons (.bin .add (.var 5) (.var 1)) .nil))) (.tup [4, 5]) (.seq (.idx (.var 3) (.lit (.int 2)))) (.lit (.bool true)) [4, 5]) [.d bd, .d (.int b), .lst acc, .d (Pl.throw v ws).enc, .unb, .unb] = .ok (.lst (ws.map fun p => pairD (p.1, p.2 + b))) [.d bd, .d (.int b), .lst acc, .d (Pl.throw v ws).enc, .unb, .unb] := by
      refine ev_comp1 (ys := ws) pairD (fun p => pairD (p.1, p.2 + b)) (by simp [run, exs, x_set, x_own, x_unpack, x_par, x_put, x_append, x_pop, x_popTo, x_expr, x_ret, x_retN, x_ite, x_wh, x_for, x_brk, x_cont, x_pass, ev, evs, evI, o_list, o_listOf, o_dict0, startE, view_d, view_o, freeze_d, both_s, ix_l, ix_t, at0, at1, at2, cmpD, eqD, truE_b, sh_none, sh_bool, sh_int, sh_end, sh_pick, sh_throw, eqv_str, eqv_int, ne1, ne2, ne3, ne4, ne5, ne6, slot_l, slot_d, slot_k, look_f, look_t, seq_l, seq_t, list_l, asl_l, asl_t, freezeAll, VI.views, Pl.enc]) (by simp [okWipe, plainS]) (by simpa [Pl.goals] using hl) fun g hg => ⟨[.d bd, .d (.int b), .lst acc, .d (Pl.throw v ws).enc, .d (.int g.1), .d (.int g.2)], ?_, ?_, ?_⟩
      · simp [asg, wipeE, pairD, setAll]
      · simp [wipeE]
      · simp [run, exs, x_set, x_own, x_unpack, x_par, x_put, x_append, x_pop, x_popTo, x_expr, x_ret, x_retN, x_ite, x_wh, x_for, x_brk, x_cont, x_pass, ev, evs, evI, o_list, o_listOf, o_dict0, startE, view_d, view_o, freeze_d, both_s, ix_l, ix_t, at0, at1, at2, cmpD, eqD, truE_b, sh_none, sh_bool, sh_int, sh_end, sh_pick, sh_throw, eqv_str, eqv_int, ne1, ne2, ne3, ne4, ne5, ne6, slot_l, slot_d, slot_k, look_f, look_t, seq_l, seq_t, list_l, asl_l, asl_t, freezeAll, VI.views, binD, addD, pairD]
    simp only [Pl.enc] at c
    simp [run, exs, x_set, x_own, x_unpack, x_par, x_put, x_append, x_pop, x_popTo, x_expr, x_ret, x_retN, x_ite, x_wh, x_for, x_brk, x_cont, x_pass, ev, evs, evI, o_list, o_listOf, o_dict0, startE, view_d, view_o, freeze_d, both_s, ix_l, ix_t, at0, at1, at2, cmpD, eqD, truE_b, sh_none, sh_bool, sh_int, sh_end, sh_pick, sh_throw, eqv_str, eqv_int, ne1, ne2, ne3, ne4, ne5, ne6, slot_l, slot_d, slot_k, look_f, look_t, seq_l, seq_t, list_l, asl_l, asl_t, freezeAll, VI.views, hBody, Pl.enc, isLst, onLst, s2, Pl.shift, c]
theorem shifted {Φ : Fns} (bs : List Pl) (b : Int) (hb : ∀ p ∈ bs, p.goals.length ≤ most) (hl : bs.length ≤ 1000) : run Φ A7 [.list (bs.map Pl.enc), .int b] = .ok (.list ((bs.map (Pl.shift b)).map Pl.enc)) := by
  obtain ⟨ρ', e, acc, s3, h1, h2⟩ := frl_inv (Φ := Φ) (tg := .name 3) (b := hBody) Pl.enc
    (fun xs ρ => ∃ acc s3, ρ = [.d (.list (bs.map Pl.enc)), .d (.int b), .lst acc, s3, .unb, .unb] ∧ acc ++ (xs.map (Pl.shift b)).map Pl.enc = (bs.map (Pl.shift b)).map Pl.enc ∧ acc.length + xs.length ≤ 1000 ∧ ∀ p ∈ xs, p.goals.length ≤ most)
    (fun x xs ρ h => by
      obtain ⟨acc, s3, rfl, h1, h2, h3⟩ := h
      simp at h2
      refine ⟨_, _, rfl, h_turn (Φ := Φ) (h3 x List.mem_cons_self) (by omega), _, _, rfl, by rw [← h1]; simp, by simp; omega, fun p hp => h3 p (List.mem_cons_of_mem _ hp)⟩)
    bs [.d (.list (bs.map Pl.enc)), .d (.int b), .lst [], .unb, .unb, .unb] ⟨[], .unb, rfl, by simp, by simpa using hl, hb⟩
  have h2' : acc = (bs.map (Pl.shift b)).map Pl.enc := by simpa using h2.1
  subst h1
  have e' : frl Φ (.name 3) (.cons (.ite (.cmp .eq (.idx (.var 3) (.lit (.int 0))) (.lit (.str ("throw" : Str)))) (.cons (.append 2 (.tuple (.cons (.lit (.str ("throw" : Str))) (.cons (.idx (.var 3) (.lit (.int 1))) (.cons (.fr (.comp (.tuple (.cons (.var 4) (.cons (.bin .add (.var 5) (.var 1)) .nil))) (.tup [4, 5]) (.seq (.idx (.var 3) (.lit (.int 2)))) (.lit (.bool true)) [4, 5])) .nil))))) .nil) (.cons (.ite (.cmp .eq (.idx (.var 3) (.lit (.int 0))) (.lit (.str ("pick" : Str)))) (.cons (.append 2 (.tuple (.cons (.lit (.str ("pick" : Str))) (.cons (.idx (.var 3) (.lit (.int 1))) (.cons (.fr (.comp (.bin .add (.var 5) (.var 1)) (.name 5) (.seq (.idx (.var 3) (.lit (.int 2)))) (.lit (.bool true)) [5])) .nil))))) .nil) (.cons (.append 2 (.var 3)) .nil)) .nil)) .nil) (bs.map Pl.enc) [.d (.list (bs.map Pl.enc)), .d (.int b), .lst [], .unb, .unb, .unb] = _ := e
  simp [run, exs, x_set, x_own, x_unpack, x_par, x_put, x_append, x_pop, x_popTo, x_expr, x_ret, x_retN, x_ite, x_wh, x_for, x_brk, x_cont, x_pass, ev, evs, evI, o_list, o_listOf, o_dict0, startE, view_d, view_o, freeze_d, both_s, ix_l, ix_t, at0, at1, at2, cmpD, eqD, truE_b, sh_none, sh_bool, sh_int, sh_end, sh_pick, sh_throw, eqv_str, eqv_int, ne1, ne2, ne3, ne4, ne5, ne6, slot_l, slot_d, slot_k, look_f, look_t, seq_l, seq_t, list_l, asl_l, asl_t, freezeAll, VI.views, A7, e', h2', freeze_l]
/-! ### rounds -/
def key0 : Pl → NK
  | .fin v => .tup [.text "end", .tup [.num v.1, .num v.2]]
  | .pick q _ => .tup [.text "pick", .num q]
  | .throw v _ => .tup [.text "throw", .tup [.num v.1, .num v.2]]
theorem key0_ok (p : Pl) : okKey (key0 p) = true := by
  cases p <;> simp [key0, okKey, NestedKey.depth, NestedKey.depthAll]
def num0 (bs : List Pl) : List Int := numb (bs.map key0)
def mx (l : List Int) : Int := (maxL l).getD 0
def lst (told : List (List Int)) : List Int := told.getLast?.getD []
def go (bs : List Pl) : Nat → List (List Int) → List (List Int)
  | 0, told => told
  | n + 1, told => if mx (lst told) < mx (step bs (lst told)) then go bs n (told ++ [step bs (lst told)]) else told
def rnds (bs : List Pl) : List (List Int) := go bs (bs.length + 1) [num0 bs]
theorem cut2 (p : Pl) : sliceD p.enc none (some 2) = some (key0 p).data := by
  cases p <;> simp [Pl.enc, sliceD, cutE, HT.sIx, key0, NestedKey.data, NestedKey.datas, pairD]
section
variable {α : Type} [DecidableEq α]
def met (ks : List α) : List α := (ks.foldl nstep ([], [])).1
theorem fold_num : ∀ (ks m : List α) (acc : List Int), m.Nodup → ∃ m', (ks.foldl nstep (m, acc)).1 = m ++ m' ∧ (m ++ m').Nodup ∧ (∀ k, k ∈ m ++ m' ↔ k ∈ m ∨ k ∈ ks) ∧ (ks.foldl nstep (m, acc)).2 = acc ++ ks.map fun k => (((m ++ m').idxOf k : Nat) : Int)
  | [], m, acc, nd => ⟨[], by simp, by simpa using nd, by simp, by simp⟩
  | k :: ks, m, acc, nd => by
    by_cases h : k ∈ m
    · have e : nstep (m, acc) k = (m, acc ++ [(m.idxOf k : Int)]) := by simp [nstep, h]
      obtain ⟨m', h1, h2, h3, h4⟩ := fold_num ks m (acc ++ [(m.idxOf k : Int)]) nd
      refine ⟨m', by rw [List.foldl_cons, e]; exact h1, h2, fun x => ?_, ?_⟩
      · rw [h3]
        constructor
        · rintro (z | z)
          · exact .inl z
          · exact .inr (List.mem_cons_of_mem _ z)
        · rintro (z | z)
          · exact .inl z
          · rcases List.mem_cons.mp z with rfl | z
            · exact .inl h
            · exact .inr z
      · rw [List.foldl_cons, e, h4, List.map_cons, idx_old h]
        simp
    · have e : nstep (m, acc) k = (m ++ [k], acc ++ [(m.length : Int)]) := by simp [nstep, h]
      have nd' : (m ++ [k]).Nodup := List.nodup_append.mpr ⟨nd, by simp, fun x hx y hy e' => by
        rw [List.mem_singleton] at hy
        rw [hy] at e'
        exact h (by rw [← e']; exact hx)⟩
      obtain ⟨m', h1, h2, h3, h4⟩ := fold_num ks (m ++ [k]) (acc ++ [(m.length : Int)]) nd'
      have ea : m ++ [k] ++ m' = m ++ (k :: m') := by simp
      rw [ea] at h1 h2 h3 h4
      refine ⟨k :: m', by rw [List.foldl_cons, e]; exact h1, h2, fun x => ?_, ?_⟩
      · rw [h3]
        simp [or_assoc]
      · rw [List.foldl_cons, e, h4, List.map_cons]
        have : (m ++ k :: m').idxOf k = m.length := by
          rw [List.idxOf_append, if_neg h]
          simp
        rw [this]
        simp
theorem met_nodup (ks : List α) : (met ks).Nodup := by
  obtain ⟨m', h1, h2, h3, h4⟩ := fold_num ks [] [] .nil
  unfold met
  rw [h1]
  exact h2
theorem met_mem (ks : List α) (k : α) : k ∈ met ks ↔ k ∈ ks := by
  obtain ⟨m', h1, h2, h3, h4⟩ := fold_num ks [] [] .nil
  unfold met
  rw [h1, h3]
  simp
theorem numb_eq (ks : List α) : numb ks = ks.map fun k => (((met ks).idxOf k : Nat) : Int) := by
  obtain ⟨m', h1, h2, h3, h4⟩ := fold_num ks [] [] .nil
  unfold numb met
  rw [h1, h4]
  simp
theorem numb_len (ks : List α) : (numb ks).length = ks.length := by rw [numb_eq]; simp
theorem nodup_len : ∀ (l m : List α), l.Nodup → (∀ x ∈ l, x ∈ m) → l.length ≤ m.length
  | [], _, _, _ => Nat.zero_le _
  | x :: xs, m, nd, h => by
    obtain ⟨h1, h2⟩ := List.nodup_cons.mp nd
    have hx := h x List.mem_cons_self
    have := nodup_len xs (m.erase x) h2 fun y hy => (List.mem_erase_of_ne (fun e => h1 (by rw [← e]; exact hy))).mpr (h y (List.mem_cons_of_mem _ hy))
    rw [List.length_erase_of_mem hx] at this
    have : 0 < m.length := List.length_pos_of_mem hx
    simp
    omega
theorem met_len (ks : List α) : (met ks).length ≤ ks.length := by
  exact nodup_len _ _ (met_nodup ks) fun k hk => (met_mem ks k).mp hk
/-- like numbers: like items -/
theorem numb_iff {ks : List α} {i j : Nat} {a b : α} (hi : ks[i]? = some a) (hj : ks[j]? = some b) : (numb ks).getD i 0 = (numb ks).getD j 0 ↔ a = b := by
  have hi' : i < ks.length := (List.getElem?_eq_some_iff.mp hi).1
  have hj' : j < ks.length := (List.getElem?_eq_some_iff.mp hj).1
  have ma : a ∈ met ks := (met_mem ks a).mpr (List.mem_of_getElem? hi)
  have mb : b ∈ met ks := (met_mem ks b).mpr (List.mem_of_getElem? hj)
  rw [numb_eq, List.getD_eq_getElem?_getD, List.getD_eq_getElem?_getD, List.getElem?_map, List.getElem?_map, hi, hj]
  simp only [Option.map_some, Option.getD_some]
  constructor
  · intro h
    have h : (met ks).idxOf a = (met ks).idxOf b := by omega
    have e1 := List.getElem_idxOf (List.idxOf_lt_length_of_mem ma)
    have e2 := List.getElem_idxOf (List.idxOf_lt_length_of_mem mb)
    rw [← e1, ← e2]
    congr 1
  · rintro rfl; rfl
theorem numb_rng (ks : List α) : ∀ n ∈ numb ks, 0 ≤ n ∧ n < ks.length := by
  intro n hn
  rw [numb_eq] at hn
  obtain ⟨k, hk, rfl⟩ := List.mem_map.mp hn
  have := List.idxOf_lt_length_of_mem ((met_mem ks k).mpr hk)
  have := met_len ks
  omega
end
theorem foldl_max_ge' : ∀ (xs : List Int) (a : Int), a ≤ xs.foldl max a ∧ (∀ y ∈ xs, y ≤ xs.foldl max a) ∧ (xs.foldl max a = a ∨ xs.foldl max a ∈ xs)
  | [], a => ⟨Int.le_refl _, fun _ h => by simp at h, .inl rfl⟩
  | x :: xs, a => by
    obtain ⟨h1, h2, h3⟩ := foldl_max_ge' xs (max a x)
    simp only [List.foldl_cons]
    refine ⟨by omega, fun y hy => ?_, ?_⟩
    · rcases List.mem_cons.mp hy with rfl | hy
      · omega
      · exact h2 y hy
    · rcases h3 with h3 | h3
      · by_cases hax : x ≤ a
        · left; rw [h3]; omega
        · right; rw [h3]
          have : max a x = x := by omega
          rw [this]; exact List.mem_cons_self
      · exact .inr (List.mem_cons_of_mem _ h3)
theorem mx_spec {l : List Int} (h : l ≠ []) : maxL l = some (mx l) ∧ mx l ∈ l ∧ ∀ y ∈ l, y ≤ mx l := by
  cases l with
  | nil => exact absurd rfl h
  | cons x xs =>
    obtain ⟨h1, h2, h3⟩ := foldl_max_ge' xs x
    refine ⟨rfl, ?_, fun y hy => ?_⟩
    · show xs.foldl max x ∈ x :: xs
      rcases h3 with h3 | h3
      · rw [h3]; exact List.mem_cons_self
      · exact List.mem_cons_of_mem _ h3
    · show y ≤ xs.foldl max x
      rcases List.mem_cons.mp hy with rfl | hy
      · exact h1
      · exact h2 y hy
theorem step_len {bs : List Pl} {nums : List Int} (h : nums.length = bs.length) : (step bs nums).length = bs.length := by
  unfold step
  rw [numb_len]
  simp [marks, h]
theorem num0_len (bs : List Pl) : (num0 bs).length = bs.length := by
  unfold num0
  rw [numb_len]
  simp
theorem mx_lt {bs : List Pl} {nums : List Int} (h : nums.length = bs.length) (hb : bs ≠ []) : mx (step bs nums) < bs.length := by
  have hl := step_len h
  have hne : step bs nums ≠ [] := fun e => by
    rw [e] at hl
    exact hb (List.length_eq_zero_iff.mp hl.symm)
  have := (mx_spec hne).2.1
  have := (numb_rng (marks bs nums) _ this).2
  simp [marks, h] at this
  exact this
end AL
end VI
set_option Elab.async false
set_option linter.all false
set_option autoImplicit false
set_option maxRecDepth 20000
/-! rounds, alike. -/
namespace VI
namespace AL
open PySem
abbrev iL (l : List Int) : PyData := .list (l.map .int)
def rWh : CE := (.cmp .gt (.bi .max (.cons (.var 4) .nil)) (.bi .max (.cons (.idx (.var 3) (.neg (.lit (.int 1)))) .nil)))
def rBd : CSs := (.cons (.append 3 (.var 4)) (.cons (.set 4 (.call 6 (.cons (.var 2) (.cons (.var 4) .nil)))) .nil))
theorem max_ints {l : List Int} (h : l ≠ []) : maxB (iL l) = some (.int (mx l)) := by
  have := intsOf_map (fun i : Int => i) l
  simp at this
  have := (mx_spec h).1
  simp [maxB, intsIn, *]
theorem last_told {told : List (List Int)} (h : told ≠ []) : L2.atI (told.map iL) (-1) = some (iL (lst told)) := by
  rw [at_last _ (by simpa using h)]
  unfold lst
  rw [List.getLast?_map]
  cases e : told.getLast? with
  | none => simp at e; exact absurd e h
  | some x => rfl
theorem go_loop {Φ : Fns} {bs : List Pl} {o1 o2 : PyData} (hb : bs ≠ []) (hl : bs.length ≤ 1000) (h6 : ∀ nums : List Int, nums.length = bs.length → Φ 6 [.list (bs.map Pl.enc), iL nums] = .ok (iL (step bs nums))) :
    ∀ (k fuel : Nat) (told : List (List Int)), k < fuel → told ≠ [] → (∀ t ∈ told, t.length = bs.length) → (bs.length : Int) ≤ mx (lst told) + k → told.length + k ≤ 5000 → ∀ s5 : SV,
    whl Φ rWh rBd fuel [.d o1, .d o2, .d (.list (bs.map Pl.enc)), .lst (told.map iL), .d (iL (step bs (lst told))), s5] =
      .ok .nx [.d o1, .d o2, .d (.list (bs.map Pl.enc)), .lst ((go bs k told).map iL), .d (iL (step bs (lst (go bs k told)))), s5]
  | k, 0, _, h, _, _, _, _, _ => absurd h (Nat.not_lt_zero _)
  | k, fuel + 1, told, hk, hne, hlen, hm, ht, s5 => by
    have ll : (lst told).length = bs.length := by
      unfold lst
      cases e : told.getLast? with
      | none => simp at e; exact absurd e hne
      | some x => exact hlen x (List.mem_of_getLast? e)
    have l0 : lst told ≠ [] := fun e => by rw [e] at ll; exact hb (List.length_eq_zero_iff.mp ll.symm)
    have sl := step_len ll
    have s0 : step bs (lst told) ≠ [] := fun e => by rw [e] at sl; exact hb (List.length_eq_zero_iff.mp sl.symm)
    have m1 := max_ints l0
    have m2 := max_ints s0
    have lt := last_told hne
    have ml := mx_lt ll hb
    have neg1 : negD (.int 1) = some (.int (-1)) := rfl
    have tk : small (told.length + 1) = true := small_of (by omega)
    by_cases hlt : mx (lst told) < mx (step bs (lst told))
    · cases k with
      | zero => omega
      | succ k =>
        have hgo : go bs (k + 1) told = go bs k (told ++ [step bs (lst told)]) := by
          show (if _ then _ else _) = _
          rw [if_pos hlt]
        have ls : lst (told ++ [step bs (lst told)]) = step bs (lst told) := by simp [lst]
        have h6' := h6 _ sl
        have ih := go_loop (Φ := Φ) (o1 := o1) (o2 := o2) hb hl h6 k fuel (told ++ [step bs (lst told)]) (by omega) (by simp) (fun t ht => by
          simp at ht
          rcases ht with ht | rfl
          · exact hlen t ht
          · exact sl) (by rw [ls]; push_cast at hm; omega) (by simp; omega) s5
        rw [hgo, ← ih, ls]
        refine whl_t _ (v := .d (.bool true)) (ρ1 := [.d o1, .d o2, .d (.list (bs.map Pl.enc)), .lst (told.map iL), .d (iL (step bs (lst told))), s5]) ?_ rfl ?_
        · simp [run, exs, x_set, x_own, x_unpack, x_par, x_put, x_append, x_pop, x_popTo, x_expr, x_ret, x_retN, x_ite, x_wh, x_for, x_brk, x_cont, x_pass, ev, evs, evI, o_list, o_listOf, o_dict0, startE, view_d, view_o, freeze_d, both_s, ix_l, ix_t, at0, at1, at2, cmpD, eqD, truE_b, sh_none, sh_bool, sh_int, sh_end, sh_pick, sh_throw, eqv_str, eqv_int, ne1, ne2, ne3, ne4, ne5, ne6, slot_l, slot_d, slot_k, look_f, look_t, seq_l, seq_t, list_l, asl_l, asl_t, freezeAll, VI.views, rWh, biD, on1, m1, m2, neg1, lt, intC, hlt]
        · simp [run, exs, x_set, x_own, x_unpack, x_par, x_put, x_append, x_pop, x_popTo, x_expr, x_ret, x_retN, x_ite, x_wh, x_for, x_brk, x_cont, x_pass, ev, evs, evI, o_list, o_listOf, o_dict0, startE, view_d, view_o, freeze_d, both_s, ix_l, ix_t, at0, at1, at2, cmpD, eqD, truE_b, sh_none, sh_bool, sh_int, sh_end, sh_pick, sh_throw, eqv_str, eqv_int, ne1, ne2, ne3, ne4, ne5, ne6, slot_l, slot_d, slot_k, look_f, look_t, seq_l, seq_t, list_l, asl_l, asl_t, freezeAll, VI.views, rBd, isLst, onLst, tk, h6', callE, isScalar]
    · have hgo : go bs k told = told := by
        cases k with
        | zero => rfl
        | succ k =>
          show (if _ then _ else _) = _
          rw [if_neg hlt]
      rw [hgo]
      exact whl_f _ (v := .d (.bool false)) (by simp [run, exs, x_set, x_own, x_unpack, x_par, x_put, x_append, x_pop, x_popTo, x_expr, x_ret, x_retN, x_ite, x_wh, x_for, x_brk, x_cont, x_pass, ev, evs, evI, o_list, o_listOf, o_dict0, startE, view_d, view_o, freeze_d, both_s, ix_l, ix_t, at0, at1, at2, cmpD, eqD, truE_b, sh_none, sh_bool, sh_int, sh_end, sh_pick, sh_throw, eqv_str, eqv_int, ne1, ne2, ne3, ne4, ne5, ne6, slot_l, slot_d, slot_k, look_f, look_t, seq_l, seq_t, list_l, asl_l, asl_t, freezeAll, VI.views, rWh, biD, on1, m1, m2, neg1, lt, intC, hlt]) rfl
def both2 (one other : List Pl) : List Pl := one ++ other.map (Pl.shift one.length)
theorem rounds {Φ : Fns} (one other : List Pl) (hb : one ≠ []) (hl : (both2 one other).length ≤ 1000) (hg : ∀ p ∈ other, p.goals.length ≤ most)
    (h7 : Φ 7 [.list (other.map Pl.enc), .int one.length] = .ok (.list ((other.map (Pl.shift one.length)).map Pl.enc)))
    (h3 : ∀ ks : List NK, (∀ k ∈ ks, okKey k = true) → ks.length ≤ 100000 → Φ 3 [.list (ks.map NestedKey.data)] = .ok (.list ((numb ks).map .int)))
    (h6 : ∀ nums : List Int, nums.length = (both2 one other).length → Φ 6 [.list ((both2 one other).map Pl.enc), iL nums] = .ok (iL (step (both2 one other) nums))) :
    run Φ A8 [.list (one.map Pl.enc), .list (other.map Pl.enc)] = .ok (.list ((rnds (both2 one other)).map iL)) := by
  have hm : (1000 : Nat) ≤ most := by decide
  have eb : (both2 one other).map Pl.enc = one.map Pl.enc ++ (other.map (Pl.shift one.length)).map Pl.enc := by simp [both2]
  have sm : small (one.length + other.length) = true := small_of (by simp [both2] at hl; omega)
  have ne : both2 one other ≠ [] := fun e => by
    have : one.length = 0 := by
      have := congrArg List.length e
      simp [both2] at this
      simp [this.1]
    exact hb (List.length_eq_zero_iff.mp this)
  have c : evO Φ (.comp (.slice (.var 5) (.lit .none) (.lit (.int 2))) (.name 5) (.seq (.var 2)) (.lit (.bool true)) [5]) [.d (.list (one.map Pl.enc)), .d (.list (other.map Pl.enc)), .d (.list ((both2 one other).map Pl.enc)), .unb, .unb, .unb] =
      .ok (.lst ((both2 one other).map fun p => (key0 p).data)) [.d (.list (one.map Pl.enc)), .d (.list (other.map Pl.enc)), .d (.list ((both2 one other).map Pl.enc)), .unb, .unb, .unb] := by
    refine ev_comp1 (ys := both2 one other) Pl.enc (fun p => (key0 p).data) (by simp [run, exs, x_set, x_own, x_unpack, x_par, x_put, x_append, x_pop, x_popTo, x_expr, x_ret, x_retN, x_ite, x_wh, x_for, x_brk, x_cont, x_pass, ev, evs, evI, o_list, o_listOf, o_dict0, startE, view_d, view_o, freeze_d, both_s, ix_l, ix_t, at0, at1, at2, cmpD, eqD, truE_b, sh_none, sh_bool, sh_int, sh_end, sh_pick, sh_throw, eqv_str, eqv_int, ne1, ne2, ne3, ne4, ne5, ne6, slot_l, slot_d, slot_k, look_f, look_t, seq_l, seq_t, list_l, asl_l, asl_t, freezeAll, VI.views]) (by simp [okWipe, plainS]) (by omega) fun p hp => ⟨[.d (.list (one.map Pl.enc)), .d (.list (other.map Pl.enc)), .d (.list ((both2 one other).map Pl.enc)), .unb, .unb, .d p.enc], ?_, ?_, ?_⟩
    · simp [asg, wipeE]
    · simp [wipeE]
    · have := cut2 p
      simp [run, exs, x_set, x_own, x_unpack, x_par, x_put, x_append, x_pop, x_popTo, x_expr, x_ret, x_retN, x_ite, x_wh, x_for, x_brk, x_cont, x_pass, ev, evs, evI, o_list, o_listOf, o_dict0, startE, view_d, view_o, freeze_d, both_s, ix_l, ix_t, at0, at1, at2, cmpD, eqD, truE_b, sh_none, sh_bool, sh_int, sh_end, sh_pick, sh_throw, eqv_str, eqv_int, ne1, ne2, ne3, ne4, ne5, ne6, slot_l, slot_d, slot_k, look_f, look_t, seq_l, seq_t, list_l, asl_l, asl_t, freezeAll, VI.views, isNoneL, partV, intP, this]
  have e3 := h3 ((both2 one other).map key0) (fun k hk => by
    obtain ⟨q, _, rfl⟩ := List.mem_map.mp hk
    exact key0_ok q) (by simp; omega)
  have ek : ((both2 one other).map key0).map NestedKey.data = (both2 one other).map fun p => (key0 p).data := by simp
  rw [ek] at e3
  have neg1 : negD (.int 1) = some (.int (-1)) := rfl
  have h6' := h6 (num0 (both2 one other)) (num0_len _)
  have lp := go_loop (Φ := Φ) (o1 := .list (one.map Pl.enc)) (o2 := .list (other.map Pl.enc)) ne hl h6 ((both2 one other).length + 1) fuelW [num0 (both2 one other)] (by unfold fuelW; omega) (by simp) (by simp [num0_len]) (by
    have h0 : num0 (both2 one other) ≠ [] := fun e => by
      have := congrArg List.length e
      rw [num0_len] at this
      exact ne (List.length_eq_zero_iff.mp this)
    have := (numb_rng _ _ (mx_spec h0).2.1).1
    simp [lst]
    omega) (by simp; omega) .unb
  have l1 : lst [num0 (both2 one other)] = num0 (both2 one other) := rfl
  rw [l1] at lp
  have lp' : whl Φ (.cmp .gt (.bi .max (.cons (.var 4) .nil)) (.bi .max (.cons (.idx (.var 3) (.neg (.lit (.int 1)))) .nil))) (.cons (.append 3 (.var 4)) (.cons (.set 4 (.call 6 (.cons (.var 2) (.cons (.var 4) .nil)))) .nil)) fuelW _ = _ := lp
  have atl : L2.atI [iL (num0 (both2 one other))] (-1) = some (iL (num0 (both2 one other))) := by
    rw [at_last _ (by simp)]
    rfl
  simp only [eb, List.map_cons, List.map_nil] at c lp' h6'
  have e3' : Φ 3 [.list ((both2 one other).map fun p => (key0 p).data)] = .ok (iL (num0 (both2 one other))) := e3
  simp [-List.map_map, run, exs, x_set, x_own, x_unpack, x_par, x_put, x_append, x_pop, x_popTo, x_expr, x_ret, x_retN, x_ite, x_wh, x_for, x_brk, x_cont, x_pass, ev, evs, evI, o_list, o_listOf, o_dict0, startE, view_d, view_o, freeze_d, both_s, ix_l, ix_t, at0, at1, at2, cmpD, eqD, truE_b, sh_none, sh_bool, sh_int, sh_end, sh_pick, sh_throw, eqv_str, eqv_int, ne1, ne2, ne3, ne4, ne5, ne6, slot_l, slot_d, slot_k, look_f, look_t, seq_l, seq_t, list_l, asl_l, asl_t, freezeAll, VI.views, A8, biD, on1, lenB, h7, callE, isScalar, binD, addD, sm, c, e3', neg1, atl, h6', lp', freeze_l, rnds]
theorem go_ne (bs : List Pl) : ∀ (n : Nat) (told : List (List Int)), told ≠ [] → (∀ t ∈ told, t.length = bs.length) → go bs n told ≠ [] ∧ ∀ t ∈ go bs n told, t.length = bs.length
  | 0, told, h, h2 => ⟨h, h2⟩
  | n + 1, told, h, h2 => by
    unfold go
    split
    · refine go_ne bs n _ (by simp) fun t ht => ?_
      simp at ht
      rcases ht with ht | rfl
      · exact h2 t ht
      · refine step_len ?_
        unfold lst
        cases e : told.getLast? with
        | none => simp at e; exact absurd e h
        | some x => exact h2 x (List.mem_of_getLast? e)
    · exact ⟨h, h2⟩
/-- the last round -/
def fin (bs : List Pl) : List Int := lst (rnds bs)
theorem rnds_ne (bs : List Pl) : rnds bs ≠ [] ∧ ∀ t ∈ rnds bs, t.length = bs.length := go_ne bs _ _ (by simp) (by simp [num0_len])
theorem fin_len (bs : List Pl) : (fin bs).length = bs.length := by
  obtain ⟨h1, h2⟩ := rnds_ne bs
  unfold fin lst
  cases e : (rnds bs).getLast? with
  | none => simp at e; exact absurd e h1
  | some x => exact h2 x (List.mem_of_getLast? e)
def alk (bs : List Pl) (i j : Int) : Bool := decide (cl (fin bs) i = cl (fin bs) j)
theorem alike {Φ : Fns} (one other : List Pl) (f s : Int) (hf : 0 ≤ f ∧ f < one.length) (hs : 0 ≤ s ∧ s < other.length) (hl : one.length ≤ 1000)
    (h8 : Φ 8 [.list (one.map Pl.enc), .list (other.map Pl.enc)] = .ok (.list ((rnds (both2 one other)).map iL))) :
    run Φ A9 [.list (one.map Pl.enc), .int f, .list (other.map Pl.enc), .int s] = .ok (.bool (alk (both2 one other) f (one.length + s))) := by
  have neg1 : negD (.int 1) = some (.int (-1)) := rfl
  have hl2 : (fin (both2 one other)).length = one.length + other.length := by rw [fin_len]; simp [both2]
  have l1 := last_told (rnds_ne (both2 one other)).1
  have a1 := at_cl (nums := fin (both2 one other)) (g := f) (by omega)
  have a2 := at_cl (nums := fin (both2 one other)) (g := one.length + s) (by omega)
  have l1' : L2.atI ((rnds (both2 one other)).map iL) (-1) = some (.list ((fin (both2 one other)).map .int)) := l1
  simp [run, exs, x_set, x_own, x_unpack, x_par, x_put, x_append, x_pop, x_popTo, x_expr, x_ret, x_retN, x_ite, x_wh, x_for, x_brk, x_cont, x_pass, ev, evs, evI, o_list, o_listOf, o_dict0, startE, view_d, view_o, freeze_d, both_s, ix_l, ix_t, at0, at1, at2, cmpD, eqD, truE_b, sh_none, sh_bool, sh_int, sh_end, sh_pick, sh_throw, eqv_str, eqv_int, ne1, ne2, ne3, ne4, ne5, ne6, slot_l, slot_d, slot_k, look_f, look_t, seq_l, seq_t, list_l, asl_l, asl_t, freezeAll, VI.views, A9, h8, callE, isScalar, neg1, l1', a1, a2, biD, on1, lenB, binD, addD, alk]
  rw [Bool.beq_eq_decide_eq]
/-! ### a table that begins with these defs -/
theorem fns_suffix : ∀ (pre l : List Fn) (j : Nat), j < l.length → fns (pre ++ l) j = fns l j
  | [], _, _, _ => rfl
  | f :: pre, l, j, h => by
    have ih := fns_suffix pre l j h
    funext xs
    show (if j = (pre ++ l).length then run (fns (pre ++ l)) f xs else fns (pre ++ l) j xs) = _
    rw [if_neg (by simp; omega), ih]
abbrev tab8 : List Fn := [A8, A7, A6, A5, A4, A3, A2, A1, A0]
abbrev tab9 : List Fn := A9 :: tab8
theorem ok_goals {N : Nat} {p : Pl} (h : OkP N p) : p.goals.length ≤ most := by
  have hm : (1000 : Nat) ≤ most := by decide
  cases p with
  | fin v => simp [Pl.goals]
  | pick q gs => have := h.1; simp [Pl.goals]; omega
  | throw v ws => have := h.2.1; simp [Pl.goals]; omega
theorem shift_goals (b : Int) (p : Pl) : (Pl.shift b p).goals = p.goals.map fun g => g + b := by
  cases p <;> simp [Pl.shift, Pl.goals, Function.comp_def]
theorem f0 (p : Pl) (h : p.goals.length ≤ most) : fns [A0] 0 [p.enc] = .ok (.list (p.goals.map .int)) := goals_of p h
theorem f1 (a b : Nat) (h : b < 2 ^ 64) : fns [A1, A0] 1 [.int a, .int b] = .ok (.int (Nat.gcd a b : Nat)) := divisor_of a b h
theorem f2 (t b : Nat) (hb : 0 < b) (hb2 : b < 2 ^ 64) : fns [A2, A1, A0] 2 [.int t, .int b] = .ok (pairD ((t : Int) / (Nat.gcd t b : Nat), (b : Int) / (Nat.gcd t b : Nat))) :=
  share (Φ := fns [A1, A0]) t b hb hb2 (f1 t b hb2)
theorem f3 (ks : List NK) (hk : ∀ k ∈ ks, okKey k = true) (hl : ks.length ≤ 100000) : fns [A3, A2, A1, A0] 3 [.list (ks.map NestedKey.data)] = .ok (.list ((numb ks).map .int)) := numbered (Φ := fns [A2, A1, A0]) ks hk hl
theorem f4 (nums : List Int) (v : Int × Int) (ws : List (Int × Int)) (hw : Okw nums.length ws) (hl : ws.length ≤ 1000) (hne : ws ≠ []) : fns [A4, A3, A2, A1, A0] 4 [(Pl.throw v ws).enc, .list (nums.map .int)] = .ok (inner nums (.throw v ws)).data := by
  rw [inner_throw]
  exact shares_by (Φ := fns [A3, A2, A1, A0]) v ws nums hw hl hne fun t b hb hb2 => by
    exact (congrFun (fns_suffix [A3] [A2, A1, A0] 2 (by decide)) _).trans (f2 t b hb hb2)
theorem f5 (nums : List Int) (p : Pl) (n : Int) (hp : OkP nums.length p) : fns [A5, A4, A3, A2, A1, A0] 5 [p.enc, .int n, .list (nums.map .int)] = .ok (mark nums p n).data :=
  mark_of (Φ := fns [A4, A3, A2, A1, A0]) hp (fun p hp => by
    exact (congrFun (fns_suffix [A4, A3, A2, A1] [A0] 0 (by decide)) _).trans (f0 p hp)) fun v ws hw hl hne => f4 nums v ws hw hl hne
theorem f6 (bs : List Pl) (nums : List Int) (hb : ∀ p ∈ bs, OkP nums.length p) (hl : bs.length ≤ 1000) : fns [A6, A5, A4, A3, A2, A1, A0] 6 [.list (bs.map Pl.enc), iL nums] = .ok (iL (step bs nums)) :=
  next_round (Φ := fns [A5, A4, A3, A2, A1, A0]) hb hl (fun p n hp => f5 nums p n hp) fun ks hk hl => by
    exact (congrFun (fns_suffix [A5, A4] [A3, A2, A1, A0] 3 (by decide)) _).trans (f3 ks hk hl)
theorem f7 (bs : List Pl) (b : Int) (hb : ∀ p ∈ bs, p.goals.length ≤ most) (hl : bs.length ≤ 1000) : fns [A7, A6, A5, A4, A3, A2, A1, A0] 7 [.list (bs.map Pl.enc), .int b] = .ok (.list ((bs.map (Pl.shift b)).map Pl.enc)) :=
  shifted (Φ := fns [A6, A5, A4, A3, A2, A1, A0]) bs b hb hl
def OkB (bs : List Pl) : Prop := bs.length ≤ 1000 ∧ ∀ p ∈ bs, OkP bs.length p
theorem f8 (one other : List Pl) (hne : one ≠ []) (h : OkB (both2 one other)) (hg : ∀ p ∈ other, p.goals.length ≤ most) : fns tab8 8 [.list (one.map Pl.enc), .list (other.map Pl.enc)] = .ok (.list ((rnds (both2 one other)).map iL)) := by
  have hl := h.1
  refine rounds (Φ := fns [A7, A6, A5, A4, A3, A2, A1, A0]) one other hne hl hg (f7 other one.length hg (by simp [both2] at hl; omega)) (fun ks hk hl => ?_) fun nums hn => ?_
  · exact (congrFun (fns_suffix [A7, A6, A5, A4] [A3, A2, A1, A0] 3 (by decide)) _).trans (f3 ks hk hl)
  · exact (congrFun (fns_suffix [A7] [A6, A5, A4, A3, A2, A1, A0] 6 (by decide)) _).trans (f6 _ nums (fun p hp => by rw [hn]; exact h.2 p hp) hl)
theorem f9 (one other : List Pl) (f s : Int) (hf : 0 ≤ f ∧ f < one.length) (hs : 0 ≤ s ∧ s < other.length) (h : OkB (both2 one other)) (hg : ∀ p ∈ other, p.goals.length ≤ most) :
    fns tab9 9 [.list (one.map Pl.enc), .int f, .list (other.map Pl.enc), .int s] = .ok (.bool (alk (both2 one other) f (one.length + s))) := by
  have hl := h.1
  exact alike (Φ := fns tab8) one other f s hf hs (by simp [both2] at hl; omega) (f8 one other (fun e => by rw [e] at hf; simp at hf; omega) h hg)
end AL
end VI
set_option Elab.async false
set_option linter.all false
set_option autoImplicit false
set_option maxRecDepth 20000
/-! When two places are alike: the plain law. -/
namespace VI
namespace AL
open PySem
/-! ### shares -/
theorem sh_iff {w w' W W' : Int} (h1 : 0 ≤ w) (h2 : 0 ≤ w') (h3 : 0 < W) (h4 : 0 < W') : sh w W = sh w' W' ↔ w * W' = w' * W := by
  obtain ⟨a, rfl⟩ : ∃ n : Nat, w = n := ⟨w.toNat, by omega⟩
  obtain ⟨b, rfl⟩ : ∃ n : Nat, w' = n := ⟨w'.toNat, by omega⟩
  obtain ⟨A, rfl⟩ : ∃ n : Nat, W = n := ⟨W.toNat, by omega⟩
  obtain ⟨B, rfl⟩ : ∃ n : Nat, W' = n := ⟨W'.toNat, by omega⟩
  have hA : 0 < A := by omega
  have hB : 0 < B := by omega
  simp only [sh, Int.toNat_natCast]
  have g1 : 0 < Nat.gcd a A := Nat.gcd_pos_of_pos_right _ hA
  have g2 : 0 < Nat.gcd b B := Nat.gcd_pos_of_pos_right _ hB
  have ea := Nat.div_mul_cancel (Nat.gcd_dvd_left a A)
  have eA := Nat.div_mul_cancel (Nat.gcd_dvd_right a A)
  have eb := Nat.div_mul_cancel (Nat.gcd_dvd_left b B)
  have eB := Nat.div_mul_cancel (Nat.gcd_dvd_right b B)
  have key : ((a / Nat.gcd a A = b / Nat.gcd b B) ∧ (A / Nat.gcd a A = B / Nat.gcd b B)) ↔ a * B = b * A := by
    have c1 : Nat.Coprime (a / Nat.gcd a A) (A / Nat.gcd a A) := Nat.coprime_div_gcd_div_gcd g1
    have c2 : Nat.Coprime (b / Nat.gcd b B) (B / Nat.gcd b B) := Nat.coprime_div_gcd_div_gcd g2
    generalize a / Nat.gcd a A = x at *
    generalize A / Nat.gcd a A = X at *
    generalize b / Nat.gcd b B = y at *
    generalize B / Nat.gcd b B = Y at *
    generalize Nat.gcd a A = g at *
    generalize Nat.gcd b B = h at *
    subst ea eA eb eB
    constructor
    · rintro ⟨rfl, rfl⟩
      ac_rfl
    · intro e
      have e1 : x * Y = y * X := by
        have : (x * Y) * (g * h) = (y * X) * (g * h) := by
          calc (x * Y) * (g * h) = x * g * (Y * h) := by ac_rfl
            _ = y * h * (X * g) := e
            _ = (y * X) * (g * h) := by ac_rfl
        exact Nat.eq_of_mul_eq_mul_right (Nat.mul_pos g1 g2) this
      have hX : 0 < X := Nat.pos_of_ne_zero fun z => by subst z; simp at hA
      have hY : 0 < Y := Nat.pos_of_ne_zero fun z => by subst z; simp at hB
      have d1 : X ∣ Y := c1.symm.dvd_of_dvd_mul_left (by rw [e1]; exact Nat.dvd_mul_left _ _)
      have d2 : Y ∣ X := c2.symm.dvd_of_dvd_mul_left (by rw [← e1]; exact Nat.dvd_mul_left _ _)
      have eX : X = Y := Nat.dvd_antisymm d1 d2
      subst eX
      exact ⟨Nat.eq_of_mul_eq_mul_right hX e1, rfl⟩
  rw [Prod.mk.injEq]
  constructor
  · rintro ⟨p, q⟩
    have := key.mp ⟨by exact_mod_cast p, by exact_mod_cast q⟩
    exact_mod_cast this
  · intro e
    have := key.mpr (by exact_mod_cast e)
    exact ⟨by exact_mod_cast this.1, by exact_mod_cast this.2⟩
/-! ### the weights of the classes -/
def wt (d : Int → Int) (ws : List (Int × Int)) (k : Int) : Int := ((ws.filter fun p => decide (d p.2 = k)).map fun p => p.1).sum
theorem wt_cons (d : Int → Int) (p : Int × Int) (ws : List (Int × Int)) (k : Int) : wt d (p :: ws) k = (if d p.2 = k then p.1 else 0) + wt d ws k := by
  unfold wt
  rw [List.filter_cons]
  split <;> simp_all
theorem lk_putw (c v k : Int) (l : List (Int × Int)) : lk (putw l c v) k = if k = c then v else lk l k := by
  unfold putw
  split
  · rename_i h
    obtain ⟨p, hp, e⟩ := List.any_eq_true.mp h
    have e : p.1 = c := of_decide_eq_true e
    unfold lk
    rw [List.find?_map]
    have hc : ((fun q : Int × Int => decide (q.1 = k)) ∘ fun q : Int × Int => if q.1 = c then (q.1, v) else q) = fun q => decide (q.1 = k) := by
      funext q
      simp only [Function.comp]
      split <;> rfl
    rw [hc]
    by_cases hk : k = c
    · subst hk
      rw [if_pos rfl]
      cases hf : l.find? (fun q => decide (q.1 = k)) with
      | none =>
        rw [List.find?_eq_none] at hf
        have := hf p hp
        simp [e] at this
      | some q =>
        have := List.find?_some hf
        simp at this
        simp [this]
    · rw [if_neg hk]
      cases hf : l.find? (fun q => decide (q.1 = k)) with
      | none => rfl
      | some q =>
        have := List.find?_some hf
        simp at this
        have : q.1 ≠ c := fun z => hk (by rw [← this, z])
        simp [this]
  · rename_i h
    unfold lk
    rw [List.find?_append]
    by_cases hk : k = c
    · subst hk
      have : l.find? (fun q => decide (q.1 = k)) = none := by
        rw [List.find?_eq_none]
        intro q hq hz
        exact h (List.any_eq_true.mpr ⟨q, hq, hz⟩)
      simp [this]
    · have : c ≠ k := fun z => hk z.symm
      simp [this, hk]
theorem keys_putw (c v : Int) (l : List (Int × Int)) : (∀ k, k ∈ (putw l c v).map (fun p => p.1) ↔ k = c ∨ k ∈ l.map fun p => p.1) ∧ ((l.map fun p => p.1).Nodup → ((putw l c v).map fun p => p.1).Nodup) := by
  unfold putw
  split
  · rename_i h
    have e : (l.map fun p => if p.1 = c then (p.1, v) else p).map (fun p => p.1) = l.map fun p => p.1 := by
      rw [List.map_map]
      apply List.map_congr_left
      intro p _
      simp only [Function.comp]
      split <;> rfl
    obtain ⟨p, hp, e2⟩ := List.any_eq_true.mp h
    have e2 : p.1 = c := of_decide_eq_true e2
    rw [e]
    refine ⟨fun k => ⟨.inr, ?_⟩, id⟩
    rintro (rfl | hk)
    · exact List.mem_map.mpr ⟨p, hp, e2⟩
    · exact hk
  · rename_i h
    rw [List.map_append]
    refine ⟨fun k => by simp [or_comm], fun nd => List.nodup_append.mpr ⟨nd, by simp, fun x hx y hy z => ?_⟩⟩
    simp at hy
    obtain ⟨p, hp, e2⟩ := List.mem_map.mp hx
    exact h (List.any_eq_true.mpr ⟨p, hp, by simp [e2, z, hy]⟩)
theorem assoc_spec (nums : List Int) : ∀ (ws l : List (Int × Int)), (∀ k, lk (assoc nums ws l) k = lk l k + wt (cl nums) ws k) ∧ (∀ k, k ∈ (assoc nums ws l).map (fun p => p.1) ↔ k ∈ (l.map fun p => p.1) ∨ k ∈ ws.map fun p => cl nums p.2) ∧ ((l.map fun p => p.1).Nodup → ((assoc nums ws l).map fun p => p.1).Nodup)
  | [], l => ⟨fun k => by simp [assoc, wt], fun k => by simp [assoc], id⟩
  | w :: ws, l => by
    obtain ⟨h1, h2, h3⟩ := assoc_spec nums ws (putw l (cl nums w.2) (lk l (cl nums w.2) + w.1))
    obtain ⟨k1, k2⟩ := keys_putw (cl nums w.2) (lk l (cl nums w.2) + w.1) l
    have e : assoc nums (w :: ws) l = assoc nums ws (putw l (cl nums w.2) (lk l (cl nums w.2) + w.1)) := rfl
    rw [e]
    refine ⟨fun k => ?_, fun k => ?_, fun nd => h3 (k2 nd)⟩
    · rw [h1, lk_putw, wt_cons]
      by_cases hk : k = cl nums w.2
      · subst hk
        simp
        omega
      · have : cl nums w.2 ≠ k := fun z => hk z.symm
        simp [hk, this]
    · rw [h2, k1]
      simp
      constructor
      · rintro ((rfl | z) | z)
        · exact .inr (.inl rfl)
        · exact .inl z
        · exact .inr (.inr z)
      · rintro (z | rfl | z)
        · exact .inl (.inr z)
        · exact .inl (.inl rfl)
        · exact .inr z
theorem wt_nn {N : Nat} {ws : List (Int × Int)} (h : Okw N ws) (d : Int → Int) (k : Int) : 0 ≤ wt d ws k ∧ ((∃ p ∈ ws, d p.2 = k) ↔ 0 < wt d ws k) := by
  induction ws with
  | nil => simp [wt]
  | cons p ws ih =>
    obtain ⟨h1, h2⟩ := ih fun q hq => h q (List.mem_cons_of_mem _ hq)
    have hp := (h p List.mem_cons_self).1
    rw [wt_cons]
    by_cases hk : d p.2 = k
    · rw [if_pos hk]
      exact ⟨by omega, fun _ => by omega, fun _ => ⟨p, List.mem_cons_self, hk⟩⟩
    · rw [if_neg hk]
      refine ⟨by omega, ?_⟩
      constructor
      · rintro ⟨q, hq, e⟩
        rcases List.mem_cons.mp hq with rfl | hq
        · exact absurd e hk
        · have := h2.mp ⟨q, hq, e⟩
          omega
      · intro z
        obtain ⟨q, hq, e⟩ := h2.mpr (by omega)
        exact ⟨q, List.mem_cons_of_mem _ hq, e⟩
theorem wsum_pos {N : Nat} {ws : List (Int × Int)} (h : Okw N ws) (hne : ws ≠ []) : 0 < wsum ws := by
  have := (sum_pos ws fun p hp => ⟨(h p hp).1, (h p hp).2.1⟩).1
  have : 0 < ws.length := List.length_pos_iff.mpr hne
  omega
/-- like shares for each colour; like colours -/
def agree (d : Int → Int) : Pl → Pl → Prop
  | .throw _ ws, .throw _ vs => ∀ k, wt d ws k * wsum vs = wt d vs k * wsum ws
  | .pick _ gs, .pick _ hs => ∀ k, (∃ g ∈ gs, d g = k) ↔ ∃ g ∈ hs, d g = k
  | .fin _, .fin _ => True
  | _, _ => False
def sameKind : Pl → Pl → Prop
  | .throw _ _, .throw _ _ => True
  | .pick _ _, .pick _ _ => True
  | .fin _, .fin _ => True
  | _, _ => False
theorem key0_kind {p q : Pl} (h : key0 p = key0 q) : sameKind p q := by
  have e1 : ("end" : Str) ≠ "throw" := by decide +kernel
  have e2 : ("throw" : Str) ≠ "end" := by decide +kernel
  cases p <;> cases q <;> simp [key0, sameKind, e1, e2] at h ⊢
theorem sort_mem (l : List Int) (k : Int) : k ∈ sortI l ↔ k ∈ l := (List.mergeSort_perm _ _).mem_iff
theorem sort_sorted (l : List Int) : (sortI l).Pairwise (· ≤ ·) := by
  have := List.pairwise_mergeSort (le := fun a b : Int => decide (a ≤ b)) (fun a b c h1 h2 => by simp at *; omega) (fun a b => by simp; omega) l
  exact this.imp fun h => of_decide_eq_true h
theorem sort_nodup {l : List Int} (h : l.Nodup) : (sortI l).Nodup := (List.mergeSort_perm _ _).nodup_iff.mpr h
theorem sort_ext {l m : List Int} (h1 : l.Nodup) (h2 : m.Nodup) (h : ∀ k, k ∈ l ↔ k ∈ m) : sortI l = sortI m := by
  have p : (sortI l).Perm (sortI m) := (List.perm_ext_iff_of_nodup (sort_nodup h1) (sort_nodup h2)).mpr fun k => by rw [sort_mem, sort_mem, h]
  exact p.eq_of_pairwise (fun a b _ _ h1 h2 => Int.le_antisymm h1 h2) (sort_sorted l) (sort_sorted m)
theorem unlike_fold : ∀ (ns acc : List Int), acc.Nodup → (ns.foldl (fun acc n => if n ∈ acc then acc else acc ++ [n]) acc).Nodup ∧ ∀ k, k ∈ ns.foldl (fun acc n => if n ∈ acc then acc else acc ++ [n]) acc ↔ k ∈ acc ∨ k ∈ ns
  | [], acc, nd => ⟨nd, by simp⟩
  | n :: ns, acc, nd => by
    rw [List.foldl_cons]
    by_cases h : n ∈ acc
    · rw [if_pos h]
      obtain ⟨h1, h2⟩ := unlike_fold ns acc nd
      refine ⟨h1, fun k => ?_⟩
      rw [h2]
      constructor
      · rintro (z | z)
        · exact .inl z
        · exact .inr (List.mem_cons_of_mem _ z)
      · rintro (z | z)
        · exact .inl z
        · rcases List.mem_cons.mp z with rfl | z
          · exact .inl h
          · exact .inr z
    · rw [if_neg h]
      obtain ⟨h1, h2⟩ := unlike_fold ns (acc ++ [n]) (List.nodup_append.mpr ⟨nd, by simp, fun x hx y hy e' => by
        rw [List.mem_singleton] at hy
        rw [hy] at e'
        exact h (by rw [← e']; exact hx)⟩)
      refine ⟨h1, fun k => ?_⟩
      rw [h2]
      simp [or_assoc]
theorem unl_nodup (ns : List Int) : (unlike ns).Nodup := (unlike_fold ns [] .nil).1
theorem unl_mem (ns : List Int) (k : Int) : k ∈ unlike ns ↔ k ∈ ns := by
  have := (unlike_fold ns [] .nil).2 k
  simpa [unlike] using this
theorem wkeys_spec (nums : List Int) (ws : List (Int × Int)) : (wkeys nums ws).Pairwise (· ≤ ·) ∧ ∀ k, k ∈ wkeys nums ws ↔ ∃ p ∈ ws, cl nums p.2 = k := by
  refine ⟨sort_sorted _, fun k => ?_⟩
  unfold wkeys
  rw [sort_mem, (assoc_spec nums ws []).2.1]
  simp
theorem lk_wt (nums : List Int) (ws : List (Int × Int)) (k : Int) : lk (assoc nums ws []) k = wt (cl nums) ws k := by
  rw [(assoc_spec nums ws []).1]
  simp [lk]
theorem map_key_inj {f f' : Int → NK} {l l' : List Int} (hf : ∀ k k', f k = f' k' → k = k') (h : l.map f = l'.map f') : l = l' ∧ ∀ k ∈ l, f k = f' k := by
  induction l generalizing l' with
  | nil =>
    cases l' with
    | nil => exact ⟨rfl, by simp⟩
    | cons _ _ => simp at h
  | cons x xs ih =>
    cases l' with
    | nil => simp at h
    | cons y ys =>
      simp at h
      have e := hf _ _ h.1
      subst e
      obtain ⟨h1, h2⟩ := ih h.2
      subst h1
      refine ⟨rfl, fun k hk => ?_⟩
      rcases List.mem_cons.mp hk with rfl | hk
      · exact h.1
      · exact h2 k hk
/-- like marks, told of colours -/
theorem inner_iff {N : Nat} {nums : List Int} {p q : Pl} (hp : OkP N p) (hq : OkP N q) (hk : sameKind p q) : inner nums p = inner nums q ↔ agree (cl nums) p q := by
  cases p with
  | fin v =>
    cases q with
    | fin v' => simp [inner, agree]
    | _ => exact hk.elim
  | pick a gs =>
    cases q with
    | pick b hs =>
      simp only [inner, agree]
      constructor
      · intro h k
        have h : (sortI (unlike (gs.map (cl nums)))).map NestedKey.num = (sortI (unlike (hs.map (cl nums)))).map NestedKey.num := by injection h
        have e := (map_key_inj (fun k k' h => by injection h) h).1
        have := congrArg (k ∈ ·) e
        simp only [sort_mem, unl_mem, List.mem_map] at this
        exact iff_of_eq this
      · intro h
        congr 2
        exact sort_ext (unl_nodup _) (unl_nodup _) fun k => by
          rw [unl_mem, unl_mem, List.mem_map, List.mem_map]
          exact h k
    | _ => exact hk.elim
  | throw v ws =>
    cases q with
    | throw v' vs =>
      have pw := wsum_pos hp.1 hp.2.2
      have pv := wsum_pos hq.1 hq.2.2
      simp only [inner, agree]
      have sk : ∀ k, shK nums ws k = shK nums vs k ↔ wt (cl nums) ws k * wsum vs = wt (cl nums) vs k * wsum ws := fun k => by
        unfold shK
        rw [lk_wt, lk_wt, ← sh_iff (wt_nn hp.1 _ _).1 (wt_nn hq.1 _ _).1 pw pv]
        constructor
        · intro h
          injection h with h
          injection h with h1 h2
          injection h2 with h2 h3
          injection h2 with h2
          injection h2 with h4 h5
          injection h5 with h5 h6
          injection h4 with h4
          injection h5 with h5
          exact Prod.ext h4 h5
        · intro h
          rw [h]
      constructor
      · intro h k
        have h : (wkeys nums ws).map (shK nums ws) = (wkeys nums vs).map (shK nums vs) := by injection h
        obtain ⟨e1, e2⟩ := map_key_inj (fun k k' h => by
          unfold shK at h
          injection h with h
          injection h with h1 h2
          injection h1) h
        by_cases hk : k ∈ wkeys nums ws
        · exact (sk k).mp (e2 k hk)
        · have h1 : wt (cl nums) ws k = 0 := by
            have := wt_nn hp.1 (cl nums) k
            have n : ¬ (∃ p ∈ ws, cl nums p.2 = k) := fun z => hk (((wkeys_spec nums ws).2 k).mpr z)
            have : ¬ 0 < wt (cl nums) ws k := fun z => n (this.2.mpr z)
            omega
          have h2 : wt (cl nums) vs k = 0 := by
            have := wt_nn hq.1 (cl nums) k
            have n : ¬ (∃ p ∈ vs, cl nums p.2 = k) := fun z => hk (by rw [e1]; exact ((wkeys_spec nums vs).2 k).mpr z)
            have : ¬ 0 < wt (cl nums) vs k := fun z => n (this.2.mpr z)
            omega
          rw [h1, h2]
          simp
      · intro h
        have ek : wkeys nums ws = wkeys nums vs := by
          unfold wkeys
          refine sort_ext ((assoc_spec nums ws []).2.2 .nil) ((assoc_spec nums vs []).2.2 .nil) fun k => ?_
          rw [(assoc_spec nums ws []).2.1, (assoc_spec nums vs []).2.1]
          have e1 := (wt_nn hp.1 (cl nums) k).2
          have e2 := (wt_nn hq.1 (cl nums) k).2
          have hk := h k
          have n1 := (wt_nn hp.1 (cl nums) k).1
          have n2 := (wt_nn hq.1 (cl nums) k).1
          have eq : 0 < wt (cl nums) ws k ↔ 0 < wt (cl nums) vs k := by
            constructor
            · intro z
              have : 0 < wt (cl nums) ws k * wsum vs := Int.mul_pos z pv
              rw [hk] at this
              exact Int.lt_iff_le_and_ne.mpr ⟨n2, fun e => by rw [← e] at this; simp at this⟩
            · intro z
              have : 0 < wt (cl nums) vs k * wsum ws := Int.mul_pos z pw
              rw [← hk] at this
              exact Int.lt_iff_le_and_ne.mpr ⟨n1, fun e => by rw [← e] at this; simp at this⟩
          rw [← e1, ← e2] at eq
          simpa using eq
        rw [ek]
        congr 1
        exact List.map_congr_left fun k _ => (sk k).mpr (h k)
    | _ => exact hk.elim
end AL
end VI
set_option Elab.async false
set_option linter.all false
set_option autoImplicit false
set_option maxRecDepth 20000
/-! The last round is the coarsest that stands. -/
namespace VI
namespace AL
open PySem
/-! ### colours through a map -/
theorem sum_mul (f : Int → Int) (c : Int) : ∀ l : List Int, (l.map f).sum * c = (l.map fun k => f k * c).sum
  | [] => by simp
  | x :: l => by simp [Int.add_mul, sum_mul f c l]
theorem sum_add (f g : Int → Int) : ∀ l : List Int, (l.map fun k => f k + g k).sum = (l.map f).sum + (l.map g).sum
  | [] => by simp
  | x :: l => by
    simp [sum_add f g l]
    omega
theorem sum_one (a w : Int) : ∀ l : List Int, l.Nodup → (l.map fun k => if a = k then w else 0).sum = if a ∈ l then w else 0
  | [], _ => by simp
  | x :: l, nd => by
    obtain ⟨h1, h2⟩ := List.nodup_cons.mp nd
    have ih := sum_one a w l h2
    simp only [List.map_cons, List.sum_cons, ih, List.mem_cons]
    by_cases hx : a = x
    · subst hx
      simp [h1]
    · simp [hx]
theorem wt_group (d e h : Int → Int) (K : List Int) (nd : K.Nodup) (k : Int) : ∀ ws : List (Int × Int), (∀ p ∈ ws, d p.2 ∈ K ∧ e p.2 = h (d p.2)) → wt e ws k = ((K.filter fun k' => decide (h k' = k)).map (wt d ws)).sum
  | [], _ => by
    have : ∀ l : List Int, (l.map (wt d [])).sum = 0 := by
      intro l
      induction l with
      | nil => rfl
      | cons x l ih => simp [wt] at ih ⊢; exact ih
    rw [this]
    simp [wt]
  | p :: ws, hw => by
    have ih := wt_group d e h K nd k ws fun q hq => hw q (List.mem_cons_of_mem _ hq)
    obtain ⟨h1, h2⟩ := hw p List.mem_cons_self
    rw [wt_cons, ih]
    have e1 : (wt d (p :: ws)) = fun k' => (if d p.2 = k' then p.1 else 0) + wt d ws k' := by
      funext k'
      exact wt_cons d p ws k'
    rw [e1, sum_add, sum_one _ _ _ (nd.filter _)]
    congr 1
    rw [h2]
    by_cases hk : h (d p.2) = k
    · simp [hk, h1]
    · simp [hk]
theorem agree_through {d e h : Int → Int} {p q : Pl} (ha : agree d p q) (hp : ∀ g ∈ p.goals, e g = h (d g)) (hq : ∀ g ∈ q.goals, e g = h (d g)) : agree e p q := by
  cases p with
  | fin v =>
    cases q with
    | fin v' => exact True.intro
    | _ => exact ha.elim
  | pick a gs =>
    cases q with
    | pick b hs =>
      have ha : ∀ k, (∃ g ∈ gs, d g = k) ↔ ∃ g ∈ hs, d g = k := ha
      intro k
      constructor
      · rintro ⟨g, hg, rfl⟩
        obtain ⟨g', hg', e'⟩ := (ha (d g)).mp ⟨g, hg, rfl⟩
        exact ⟨g', hg', by rw [hq g' hg', hp g hg, e']⟩
      · rintro ⟨g, hg, rfl⟩
        obtain ⟨g', hg', e'⟩ := (ha (d g)).mpr ⟨g, hg, rfl⟩
        exact ⟨g', hg', by rw [hp g' hg', hq g hg, e']⟩
    | _ => exact ha.elim
  | throw v ws =>
    cases q with
    | throw v' vs =>
      have ha : ∀ k, wt d ws k * wsum vs = wt d vs k * wsum ws := ha
      intro k
      have nd := unl_nodup ((ws ++ vs).map fun p => d p.2)
      have mem : ∀ p ∈ ws ++ vs, d p.2 ∈ unlike ((ws ++ vs).map fun p => d p.2) := fun p hp => (unl_mem _ _).mpr (List.mem_map.mpr ⟨p, hp, rfl⟩)
      rw [wt_group d e h _ nd k ws fun p hpp => ⟨mem p (List.mem_append_left _ hpp), hp p.2 (List.mem_map.mpr ⟨p, hpp, rfl⟩)⟩,
        wt_group d e h _ nd k vs fun p hpp => ⟨mem p (List.mem_append_right _ hpp), hq p.2 (List.mem_map.mpr ⟨p, hpp, rfl⟩)⟩, sum_mul, sum_mul]
      congr 1
      exact List.map_congr_left fun k' _ => ha k'
    | _ => exact ha.elim
/-- goals renamed -/
def _root_.VI.Pl.mapG (f : Int → Int) : Pl → Pl
  | .fin v => .fin v
  | .pick q gs => .pick q (gs.map f)
  | .throw v ws => .throw v (ws.map fun p => (p.1, f p.2))
theorem shift_map (b : Int) (p : Pl) : Pl.shift b p = p.mapG fun g => g + b := by cases p <;> rfl
theorem wt_map (d f : Int → Int) (k : Int) : ∀ ws : List (Int × Int), wt d (ws.map fun p => (p.1, f p.2)) k = wt (fun g => d (f g)) ws k
  | [] => rfl
  | p :: ws => by rw [List.map_cons, wt_cons, wt_cons, wt_map d f k ws]
theorem wsum_map (f : Int → Int) (ws : List (Int × Int)) : wsum (ws.map fun p => (p.1, f p.2)) = wsum ws := by simp [wsum, Function.comp_def]
theorem agree_map (d f f' : Int → Int) (p q : Pl) : agree d (p.mapG f) (q.mapG f') ↔ (match p, q with
  | .throw _ ws, .throw _ vs => ∀ k, wt (fun g => d (f g)) ws k * wsum vs = wt (fun g => d (f' g)) vs k * wsum ws
  | .pick _ gs, .pick _ hs => ∀ k, (∃ g ∈ gs, d (f g) = k) ↔ ∃ g ∈ hs, d (f' g) = k
  | .fin _, .fin _ => True
  | _, _ => False) := by
  have ex : ∀ (gs : List Int) (f : Int → Int) (k : Int), (∃ g ∈ gs.map f, d g = k) ↔ ∃ g ∈ gs, d (f g) = k := fun gs f k => by
    constructor
    · rintro ⟨g, hg, e⟩
      obtain ⟨a, ha, rfl⟩ := List.mem_map.mp hg
      exact ⟨a, ha, e⟩
    · rintro ⟨a, ha, e⟩
      exact ⟨f a, List.mem_map.mpr ⟨a, ha, rfl⟩, e⟩
  cases p <;> cases q <;> simp only [Pl.mapG, agree, wt_map, wsum_map, ex]
theorem agree_map1 (d f : Int → Int) (p q : Pl) : agree d (p.mapG f) (q.mapG f) ↔ agree (fun g => d (f g)) p q := by
  rw [agree_map]
  cases p <;> cases q <;> simp [agree]
theorem wt_congr {d e : Int → Int} {k : Int} : ∀ {ws : List (Int × Int)}, (∀ p ∈ ws, d p.2 = e p.2) → wt d ws k = wt e ws k
  | [], _ => rfl
  | p :: ws, h => by rw [wt_cons, wt_cons, h p List.mem_cons_self, wt_congr fun q hq => h q (List.mem_cons_of_mem _ hq)]
/-- a place and itself, its goals renamed among like ones -/
theorem agree_self (d f f' : Int → Int) (p : Pl) (h : ∀ g ∈ p.goals, d (f g) = d (f' g)) : agree d (p.mapG f) (p.mapG f') := by
  rw [agree_map]
  cases p with
  | fin v => simp
  | pick q gs =>
    simp only
    intro k
    constructor
    · rintro ⟨g, hg, rfl⟩
      exact ⟨g, hg, (h g hg).symm⟩
    · rintro ⟨g, hg, rfl⟩
      exact ⟨g, hg, h g hg⟩
  | throw v ws =>
    simp only
    intro k
    rw [wt_congr (e := fun g => d (f' g)) fun p hp => h p.2 (List.mem_map.mpr ⟨p, hp, rfl⟩)]
theorem key0_map (f : Int → Int) (p : Pl) : key0 (p.mapG f) = key0 p := by cases p <;> rfl
theorem map_id (p : Pl) : p.mapG (fun g => g) = p := by cases p <;> simp [Pl.mapG]
theorem goals_map (f : Int → Int) (p : Pl) : (p.mapG f).goals = p.goals.map f := by cases p <;> simp [Pl.mapG, Pl.goals, Function.comp_def]
theorem map_map (f h : Int → Int) (p : Pl) : (p.mapG f).mapG h = p.mapG fun g => h (f g) := by cases p <;> simp [Pl.mapG, Function.comp_def]
theorem map_congr {f h : Int → Int} {p : Pl} (e : ∀ g ∈ p.goals, f g = h g) : p.mapG f = p.mapG h := by
  cases p with
  | fin v => rfl
  | pick q gs =>
    simp only [Pl.mapG]
    congr 1
    exact List.map_congr_left e
  | throw v ws =>
    simp only [Pl.mapG]
    congr 1
    exact List.map_congr_left fun p hp => by rw [e p.2 (List.mem_map.mpr ⟨p, hp, rfl⟩)]
theorem factor {P : Int → Prop} {a b : Int → Int} (h : ∀ g g', P g → P g' → a g = a g' → b g = b g') : ∃ f : Int → Int, ∀ g, P g → b g = f (a g) := by
  classical
  refine ⟨fun k => if z : ∃ x, P x ∧ a x = k then b z.choose else 0, fun g hg => ?_⟩
  have z : ∃ x, P x ∧ a x = a g := ⟨g, hg, rfl⟩
  simp only [dif_pos z]
  obtain ⟨h1, h2⟩ := z.choose_spec
  exact h _ _ hg h1 h2.symm
theorem okp_goals {N : Nat} {p : Pl} (h : OkP N p) : ∀ g ∈ p.goals, 0 ≤ g ∧ g < N := by
  cases p with
  | fin v => simp [Pl.goals]
  | pick q gs => exact h.2
  | throw v ws =>
    intro g hg
    obtain ⟨q, hq, rfl⟩ := List.mem_map.mp hg
    exact (h.1 q hq).2.2
end AL
end VI
set_option Elab.async false
set_option linter.all false
set_option autoImplicit false
set_option maxRecDepth 20000
/-! The last round: it stands, it is the coarsest; maps between boards keep it. -/
namespace VI
namespace AL
open PySem
theorem cl_nat (c : List Int) (i : Nat) : cl c i = c.getD i 0 := by simp [cl]
theorem marks_at {bs : List Pl} {c : List Int} (h : c.length = bs.length) {i : Nat} {p : Pl} (hp : bs[i]? = some p) : (marks bs c)[i]? = some (mark c p (c.getD i 0)) := by
  have hi : i < bs.length := (List.getElem?_eq_some_iff.mp hp).1
  have hc : c[i]? = some (c.getD i 0) := by
    rw [List.getD_eq_getElem?_getD, List.getElem?_eq_getElem (by omega)]
    rfl
  unfold marks
  rw [List.getElem?_map, (List.getElem?_zip_eq_some (z := (p, c.getD i 0))).mpr ⟨hp, hc⟩]
  rfl
theorem mark_iff {c : List Int} {p q : Pl} {m n : Int} : mark c p m = mark c q n ↔ m = n ∧ inner c p = inner c q := by
  unfold mark
  constructor
  · intro h
    injection h with h
    injection h with h1 h2
    injection h2 with h2
    injection h1 with h1
    exact ⟨h1, h2⟩
  · rintro ⟨rfl, h⟩
    rw [h]
theorem step_iff {bs : List Pl} {c : List Int} (h : c.length = bs.length) {i j : Nat} {p q : Pl} (hp : bs[i]? = some p) (hq : bs[j]? = some q) :
    (step bs c).getD i 0 = (step bs c).getD j 0 ↔ c.getD i 0 = c.getD j 0 ∧ inner c p = inner c q := by
  unfold step
  rw [numb_iff (marks_at h hp) (marks_at h hq), mark_iff]
theorem num0_iff {bs : List Pl} {i j : Nat} {p q : Pl} (hp : bs[i]? = some p) (hq : bs[j]? = some q) : (num0 bs).getD i 0 = (num0 bs).getD j 0 ↔ key0 p = key0 q := by
  unfold num0
  exact numb_iff (by rw [List.getElem?_map, hp]; rfl) (by rw [List.getElem?_map, hq]; rfl)
theorem lst_len {bs : List Pl} {told : List (List Int)} (h : told ≠ []) (h2 : ∀ t ∈ told, t.length = bs.length) : (lst told).length = bs.length := by
  unfold lst
  cases e : told.getLast? with
  | none => simp at e; exact absurd e h
  | some x => exact h2 x (List.mem_of_getLast? e)
theorem lst_snoc (told : List (List Int)) (x : List Int) : lst (told ++ [x]) = x := by simp [lst]
/-- a word of the last list, kept from round to round -/
theorem go_keep {bs : List Pl} (P : List Int → Prop) (hs : ∀ c : List Int, c.length = bs.length → P c → P (step bs c)) : ∀ (n : Nat) (told : List (List Int)), told ≠ [] → (∀ t ∈ told, t.length = bs.length) → P (lst told) → P (lst (go bs n told))
  | 0, told, _, _, h => h
  | n + 1, told, h1, h2, h => by
    unfold go
    split
    · refine go_keep P hs n _ (by simp) (fun t ht => ?_) ?_
      · simp at ht
        rcases ht with ht | rfl
        · exact h2 t ht
        · exact step_len (lst_len h1 h2)
      · rw [lst_snoc]
        exact hs _ (lst_len h1 h2) h
    · exact h
theorem fin_keep {bs : List Pl} (P : List Int → Prop) (h0 : P (num0 bs)) (hs : ∀ c : List Int, c.length = bs.length → P c → P (step bs c)) : P (fin bs) :=
  go_keep P hs _ _ (by simp) (by simp [num0_len]) h0
theorem go_stop {bs : List Pl} (hb : bs ≠ []) : ∀ (n : Nat) (told : List (List Int)), told ≠ [] → (∀ t ∈ told, t.length = bs.length) → (bs.length : Int) ≤ mx (lst told) + n → mx (step bs (lst (go bs n told))) ≤ mx (lst (go bs n told))
  | 0, told, h1, h2, h => by
    have := mx_lt (lst_len h1 h2) hb
    show mx (step bs (lst told)) ≤ mx (lst told)
    omega
  | n + 1, told, h1, h2, h => by
    unfold go
    split
    · rename_i hlt
      refine go_stop hb n _ (by simp) (fun t ht => ?_) ?_
      · simp at ht
        rcases ht with ht | rfl
        · exact h2 t ht
        · exact step_len (lst_len h1 h2)
      · rw [lst_snoc]
        push_cast at h
        omega
    · omega
theorem fin_stop {bs : List Pl} (hb : bs ≠ []) : mx (step bs (fin bs)) ≤ mx (fin bs) := by
  refine go_stop hb _ _ (by simp) (by simp [num0_len]) ?_
  have h0 : num0 bs ≠ [] := fun e => by
    have := congrArg List.length e
    rw [num0_len] at this
    exact hb (List.length_eq_zero_iff.mp this)
  have := (numb_rng _ _ (mx_spec h0).2.1).1
  have e : lst [num0 bs] = num0 bs := rfl
  rw [e]
  push_cast
  omega
def IsNum (l : List Int) : Prop := ∃ ks : List NK, l = numb ks
theorem fin_num (bs : List Pl) : IsNum (fin bs) := fin_keep IsNum ⟨_, rfl⟩ fun c _ _ => ⟨_, rfl⟩
theorem mx_met {ks : List NK} (h : ks ≠ []) : mx (numb ks) = (met ks).length - 1 := by
  have hn : numb ks ≠ [] := fun e => by
    have := congrArg List.length e
    rw [numb_len] at this
    exact h (List.length_eq_zero_iff.mp this)
  obtain ⟨_, h1, h2⟩ := mx_spec hn
  have hm : met ks ≠ [] := fun e => by
    obtain ⟨k, hk⟩ := List.exists_mem_of_ne_nil _ h
    have := (met_mem ks k).mpr hk
    rw [e] at this
    simp at this
  have l0 : 0 < (met ks).length := List.length_pos_iff.mpr hm
  rw [numb_eq] at h1 h2 ⊢
  apply Int.le_antisymm
  · obtain ⟨k, hk, e⟩ := List.mem_map.mp h1
    have := List.idxOf_lt_length_of_mem ((met_mem ks k).mpr hk)
    omega
  · have hk : (met ks)[(met ks).length - 1] ∈ met ks := List.getElem_mem (by omega)
    have := h2 _ (List.mem_map.mpr ⟨_, (met_mem ks _).mp hk, rfl⟩)
    have e : (met ks).idxOf (met ks)[(met ks).length - 1] = (met ks).length - 1 := (met_nodup ks).idxOf_getElem _ (by omega)
    rw [e] at this
    omega
/-- the finer numbering has no more numbers: it is the same -/
theorem same_part {ks ms : List NK} (hl : ks.length = ms.length) (hr : ∀ i j : Nat, i < ks.length → j < ks.length → ms[i]? = ms[j]? → ks[i]? = ks[j]?) (hm : (met ms).length ≤ (met ks).length) :
    ∀ i j : Nat, i < ks.length → j < ks.length → ks[i]? = ks[j]? → ms[i]? = ms[j]? := by
  intro i j hi hj h
  apply Classical.byContradiction
  intro hne
  -- a number's place
  let φ : NK → Option NK := fun b => ks[ms.idxOf b]?
  have φ_at : ∀ x : Nat, x < ks.length → ∀ b, ms[x]? = some b → φ b = ks[x]? := fun x hx b hb => by
    have mb : b ∈ ms := List.mem_of_getElem? hb
    have hlt := List.idxOf_lt_length_of_mem mb
    refine hr _ _ (by omega) hx ?_
    rw [hb, List.getElem?_eq_getElem hlt, List.getElem_idxOf hlt]
  obtain ⟨bi, hbi⟩ : ∃ b, ms[i]? = some b := ⟨ms[i], List.getElem?_eq_getElem (by omega)⟩
  obtain ⟨bj, hbj⟩ : ∃ b, ms[j]? = some b := ⟨ms[j], List.getElem?_eq_getElem (by omega)⟩
  have nb : bi ≠ bj := fun e => hne (by rw [hbi, hbj, e])
  have mi : bi ∈ met ms := (met_mem ms bi).mpr (List.mem_of_getElem? hbi)
  have mj : bj ∈ met ms := (met_mem ms bj).mpr (List.mem_of_getElem? hbj)
  have cover : ∀ a ∈ (met ks).map some, a ∈ ((met ms).erase bj).map φ := by
    intro a ha
    obtain ⟨k, hk, rfl⟩ := List.mem_map.mp ha
    obtain ⟨x, hx⟩ := List.getElem?_of_mem ((met_mem ks k).mp hk)
    have hxl : x < ks.length := (List.getElem?_eq_some_iff.mp hx).1
    obtain ⟨b, hb⟩ : ∃ b, ms[x]? = some b := ⟨ms[x], List.getElem?_eq_getElem (by omega)⟩
    have mb : b ∈ met ms := (met_mem ms b).mpr (List.mem_of_getElem? hb)
    by_cases e : b = bj
    · refine List.mem_map.mpr ⟨bi, (List.mem_erase_of_ne nb).mpr mi, ?_⟩
      rw [φ_at i hi bi hbi, h, ← φ_at j hj bj hbj, ← e, φ_at x hxl b hb, hx]
    · exact List.mem_map.mpr ⟨b, (List.mem_erase_of_ne e).mpr mb, by rw [φ_at x hxl b hb, hx]⟩
  have nd : ((met ks).map some).Nodup := by
    refine List.pairwise_map.mpr ((met_nodup ks).imp fun h e => h (by injection e))
  have := nodup_len _ _ nd cover
  rw [List.length_map, List.length_map, List.length_erase_of_mem mj] at this
  have : 0 < (met ms).length := List.length_pos_of_mem mj
  omega
theorem num_iff {ks : List NK} {i j : Nat} (hi : i < ks.length) (hj : j < ks.length) : (numb ks).getD i 0 = (numb ks).getD j 0 ↔ ks[i]? = ks[j]? := by
  rw [numb_iff (List.getElem?_eq_getElem hi) (List.getElem?_eq_getElem hj), List.getElem?_eq_getElem hi, List.getElem?_eq_getElem hj]
  simp
/-- it stands: like numbers have like marks -/
theorem fin_inner {bs : List Pl} {i j : Nat} {p q : Pl} (hp : bs[i]? = some p) (hq : bs[j]? = some q) (h : (fin bs).getD i 0 = (fin bs).getD j 0) : inner (fin bs) p = inner (fin bs) q := by
  have hi : i < bs.length := (List.getElem?_eq_some_iff.mp hp).1
  have hj : j < bs.length := (List.getElem?_eq_some_iff.mp hq).1
  have hb : bs ≠ [] := fun e => by subst e; simp at hi
  have hl := fin_len bs
  obtain ⟨ks, hk⟩ := fin_num bs
  have kl : ks.length = bs.length := by rw [← hl, hk, numb_len]
  have ml : (marks bs (fin bs)).length = bs.length := by simp [marks, hl]
  have kne : ks ≠ [] := fun e => by rw [e] at kl; exact hb (List.length_eq_zero_iff.mp kl.symm)
  have mne : marks bs (fin bs) ≠ [] := fun e => by rw [e] at ml; exact hb (List.length_eq_zero_iff.mp ml.symm)
  have st := fin_stop hb
  unfold step at st
  rw [mx_met mne] at st
  have e1 : mx (fin bs) = (met ks).length - 1 := by rw [hk, mx_met kne]
  rw [e1] at st
  have part := same_part (ks := ks) (ms := marks bs (fin bs)) (by omega) (fun x y hx hy e => by
    obtain ⟨p', hp'⟩ : ∃ p, bs[x]? = some p := ⟨bs[x], List.getElem?_eq_getElem (by omega)⟩
    obtain ⟨q', hq'⟩ : ∃ p, bs[y]? = some p := ⟨bs[y], List.getElem?_eq_getElem (by omega)⟩
    rw [marks_at hl hp', marks_at hl hq'] at e
    have := (mark_iff.mp (Option.some.inj e)).1
    rw [hk] at this
    exact (num_iff hx hy).mp this) (by omega) i j (by omega) (by omega) ((num_iff (by omega) (by omega)).mp (by rw [← hk]; exact h))
  rw [marks_at hl hp, marks_at hl hq] at part
  exact (mark_iff.mp (Option.some.inj part)).2
theorem fin_key {bs : List Pl} {i j : Nat} {p q : Pl} (hp : bs[i]? = some p) (hq : bs[j]? = some q) (h : (fin bs).getD i 0 = (fin bs).getD j 0) : key0 p = key0 q := by
  refine (num0_iff hp hq).mp ?_
  revert h
  refine fin_keep (fun c => c.getD i 0 = c.getD j 0 → (num0 bs).getD i 0 = (num0 bs).getD j 0) id fun c hc ih h => ih ((step_iff hc hp hq).mp h).1
/-- what is alike stays so -/
theorem fin_agree {bs : List Pl} (ok : OkB bs) {i j : Nat} {p q : Pl} (hp : bs[i]? = some p) (hq : bs[j]? = some q) (h : (fin bs).getD i 0 = (fin bs).getD j 0) : agree (cl (fin bs)) p q :=
  (inner_iff (ok.2 p (List.mem_of_getElem? hp)) (ok.2 q (List.mem_of_getElem? hq)) (key0_kind (fin_key hp hq h))).mp (fin_inner hp hq h)
/-- a relation under which places agree -/
def Bis (bs : List Pl) (R : Nat → Nat → Prop) : Prop := ∀ i j p q, R i j → bs[i]? = some p → bs[j]? = some q → key0 p = key0 q ∧ ∀ d : Int → Int, (∀ x y : Nat, R x y → d x = d y) → agree d p q
theorem fin_bis {bs : List Pl} (ok : OkB bs) {R : Nat → Nat → Prop} (hR : ∀ i j, R i j → i < bs.length ∧ j < bs.length) (b : Bis bs R) : ∀ i j, R i j → (fin bs).getD i 0 = (fin bs).getD j 0 := by
  have at_ : ∀ {i j : Nat}, R i j → ∃ p q, bs[i]? = some p ∧ bs[j]? = some q := fun {i j} h => ⟨bs[i]'(hR i j h).1, bs[j]'(hR i j h).2, List.getElem?_eq_getElem _, List.getElem?_eq_getElem _⟩
  refine fin_keep (fun c => ∀ i j, R i j → c.getD i 0 = c.getD j 0) (fun i j h => ?_) fun c hc ih i j h => ?_
  · obtain ⟨p, q, hp, hq⟩ := at_ h
    exact (num0_iff hp hq).mpr (b i j p q h hp hq).1
  · obtain ⟨p, q, hp, hq⟩ := at_ h
    obtain ⟨h1, h2⟩ := b i j p q h hp hq
    refine (step_iff hc hp hq).mpr ⟨ih i j h, (inner_iff (ok.2 p (List.mem_of_getElem? hp)) (ok.2 q (List.mem_of_getElem? hq)) (key0_kind h1)).mpr (h2 _ fun x y hxy => ?_)⟩
    rw [cl_nat, cl_nat]
    exact ih x y hxy
/-- a map of boards -/
def Hom (A B : List Pl) (f : Nat → Nat) : Prop := ∀ i p, A[i]? = some p → B[f i]? = some (p.mapG fun g => (f g.toNat : Nat))
theorem hom_iff {A B : List Pl} {f : Nat → Nat} (oA : OkB A) (oB : OkB B) (hf : Hom A B f) {i j : Nat} (hi : i < A.length) (hj : j < A.length) : (fin A).getD i 0 = (fin A).getD j 0 ↔ (fin B).getD (f i) 0 = (fin B).getD (f j) 0 := by
  have hfl : ∀ x, x < A.length → f x < B.length := fun x hx => (List.getElem?_eq_some_iff.mp (hf x _ (List.getElem?_eq_getElem hx))).1
  constructor
  · intro h
    refine fin_bis oB (R := fun x y => x < B.length ∧ y < B.length ∧ ∃ i j, i < A.length ∧ j < A.length ∧ x = f i ∧ y = f j ∧ (fin A).getD i 0 = (fin A).getD j 0) (fun x y h => ⟨h.1, h.2.1⟩) ?_ _ _ ⟨hfl i hi, hfl j hj, i, j, hi, hj, rfl, rfl, h⟩
    rintro x y p q ⟨_, _, i, j, hi, hj, rfl, rfl, h⟩ hp hq
    have hpi := List.getElem?_eq_getElem hi
    have hqj := List.getElem?_eq_getElem hj
    rw [hf i _ hpi] at hp
    rw [hf j _ hqj] at hq
    cases hp; cases hq
    refine ⟨by rw [key0_map, key0_map]; exact fin_key hpi hqj h, fun d hd => (agree_map1 _ _ _ _).mpr ?_⟩
    obtain ⟨k, hk⟩ := factor (P := fun g => 0 ≤ g ∧ g < A.length) (a := cl (fin A)) (b := fun g => d (f g.toNat : Nat)) fun g g' hg hg' e => by
      have e : (fin A).getD g.toNat 0 = (fin A).getD g'.toNat 0 := e
      exact hd _ _ ⟨hfl _ (by omega), hfl _ (by omega), g.toNat, g'.toNat, by omega, by omega, rfl, rfl, e⟩
    exact agree_through (fin_agree oA hpi hqj h) (fun g hg => hk g (okp_goals (oA.2 _ (List.getElem_mem hi)) g hg)) fun g hg => hk g (okp_goals (oA.2 _ (List.getElem_mem hj)) g hg)
  · intro h
    refine fin_bis oA (R := fun x y => x < A.length ∧ y < A.length ∧ (fin B).getD (f x) 0 = (fin B).getD (f y) 0) (fun x y h => ⟨h.1, h.2.1⟩) ?_ _ _ ⟨hi, hj, h⟩
    rintro x y p q ⟨hx, hy, h⟩ hp hq
    have k := fin_key (hf x p hp) (hf y q hq) h
    rw [key0_map, key0_map] at k
    refine ⟨k, fun d hd => ?_⟩
    have ag := (agree_map1 _ _ _ _).mp (fin_agree oB (hf x p hp) (hf y q hq) h)
    obtain ⟨k, hk⟩ := factor (P := fun g => 0 ≤ g ∧ g < A.length) (a := fun g => cl (fin B) (f g.toNat : Nat)) (b := d) fun g g' hg hg' e => by
      simp only [cl_nat] at e
      have := hd g.toNat g'.toNat ⟨by omega, by omega, e⟩
      rwa [Int.toNat_of_nonneg hg.1, Int.toNat_of_nonneg hg'.1] at this
    exact agree_through ag (fun g hg => hk g (okp_goals (oA.2 p (List.mem_of_getElem? hp)) g hg)) fun g hg => hk g (okp_goals (oA.2 q (List.mem_of_getElem? hq)) g hg)
end AL
end VI
set_option Elab.async false
set_option linter.all false
set_option autoImplicit false
set_option maxRecDepth 20000
/-! What the laws' makers give. -/
namespace VI
namespace AL
open PySem
def C0 : Fn := ⟨3, (.cons (.ite (.cmp .lt (.var 1) (.bi .len (.cons (.var 0) .nil))) (.cons (.ret (.idx (.var 0) (.var 1))) .nil) .nil) (.cons (.set 2 (.bin .add (.bin .mul (.var 1) (.lit (.int 7919))) (.lit (.int 11)))) (.cons (.ite (.cmp .gt (.bi .len (.cons (.var 0) .nil)) (.lit (.int 0))) (.cons (.set 2 (.bin .add (.bin .mul (.bin .mod (.idx (.var 0) (.bin .mod (.bin .mul (.var 1) (.lit (.int 7))) (.bi .len (.cons (.var 0) .nil)))) (.lit (.int 2147483647))) (.lit (.int 48271))) (.bin .mul (.var 1) (.lit (.int 7919))))) .nil) .nil) (.cons (.ret (.bin .mod (.bin .mul (.var 2) (.var 2)) (.lit (.int 2147483629)))) .nil))))⟩
def C1 : Fn := ⟨2, (.cons (.ret (.bin .mod (.bin .fdiv (.bin .mod (.bin .mul (.bin .mod (.var 0) (.bin .pow (.lit (.int 2)) (.lit (.int 64)))) (.lit (.int 11400714819323198485))) (.bin .pow (.lit (.int 2)) (.lit (.int 64)))) (.bin .pow (.lit (.int 2)) (.lit (.int 11)))) (.var 1))) .nil)⟩
theorem log_lt {n k : Nat} (h : n < 2 ^ k) : n.log2 ≤ k := by
  by_cases h0 : n = 0
  · subst h0; simp
  · exact Nat.le_of_lt ((Nat.log2_lt h0).mpr h)
theorem mulOk_of {i j : Int} (h1 : i.natAbs.log2 ≤ 2000000) (h2 : j.natAbs.log2 ≤ 2000000) : mulOk i j = true := by
  unfold mulOk
  exact decide_eq_true (by omega)
theorem log_sm {i : Int} (h1 : -(2 ^ 64) < i) (h2 : i < 2 ^ 64) : i.natAbs.log2 ≤ 2000000 := by
  have : i.natAbs < 2 ^ 64 := by omega
  have := log_lt this
  omega
theorem mulOk_sm {i j : Int} (h1 : -(2 ^ 64) < i) (h2 : i < 2 ^ 64) (h3 : -(2 ^ 64) < j) (h4 : j < 2 ^ 64) : mulOk i j = true := mulOk_of (log_sm h1 h2) (log_sm h3 h4)
theorem divOk_sm {j : Int} (h1 : 0 < j) (h2 : j < 2 ^ 64) : divOk j = true := by
  have : j.natAbs.log2 ≤ 64 := log_lt (by omega)
  unfold divOk
  simp
  omega
theorem cell {Φ : Fns} (ns : List Int) (k : Nat) (hk : k ≤ 1000) (hl : ns.length ≤ 63) (hb : ∀ z ∈ ns, z.natAbs.log2 ≤ 1048576) : ∃ z : Int, run Φ C0 [iL ns, .int k] = .ok (.int z) ∧ z.natAbs.log2 ≤ 1048576 := by
  by_cases h : k < ns.length
  · refine ⟨cl ns k, ?_, ?_⟩
    · have := at_cl (nums := ns) (g := (k : Int)) (by omega)
      simp [run, exs, x_set, x_own, x_unpack, x_par, x_put, x_append, x_pop, x_popTo, x_expr, x_ret, x_retN, x_ite, x_wh, x_for, x_brk, x_cont, x_pass, ev, evs, evI, o_list, o_listOf, o_dict0, startE, view_d, view_o, freeze_d, both_s, ix_l, ix_t, at0, at1, at2, cmpD, eqD, truE_b, sh_none, sh_bool, sh_int, sh_end, sh_pick, sh_throw, eqv_str, eqv_int, ne1, ne2, ne3, ne4, ne5, ne6, slot_l, slot_d, slot_k, look_f, look_t, seq_l, seq_t, list_l, asl_l, asl_t, freezeAll, VI.views, C0, biD, on1, lenB, intC, h, this]
    · have : cl ns k ∈ ns := by
        rw [cl_nat, List.getD_eq_getElem?_getD, List.getElem?_eq_getElem h]
        exact List.getElem_mem h
      exact hb _ this
  · have m1 : mulOk (k : Int) 7919 = true := mulOk_sm (by omega) (by omega) (by omega) (by omega)
    have m2 : mulOk (k : Int) 7 = true := mulOk_sm (by omega) (by omega) (by omega) (by omega)
    by_cases h0 : 0 < ns.length
    · have hi : (0 : Int) < ns.length := by omega
      have r1 := Int.emod_nonneg ((k : Int) * 7) (b := ns.length) (by omega)
      have r2 := Int.emod_lt_of_pos ((k : Int) * 7) hi
      have a1 := at_cl (nums := ns) (g := (k : Int) * 7 % ns.length) ⟨r1, r2⟩
      have q1 := Int.emod_nonneg (cl ns ((k : Int) * 7 % ns.length)) (b := 2147483647) (by omega)
      have q2 := Int.emod_lt_of_pos (cl ns ((k : Int) * 7 % ns.length)) (b := 2147483647) (by omega)
      have m3 : mulOk (cl ns ((k : Int) * 7 % ns.length) % 2147483647) 48271 = true := mulOk_sm (by omega) (by omega) (by omega) (by omega)
      have m4 : mulOk (cl ns ((k : Int) * 7 % ns.length) % 2147483647 * 48271 + (k : Int) * 7919) (cl ns ((k : Int) * 7 % ns.length) % 2147483647 * 48271 + (k : Int) * 7919) = true := mulOk_sm (by omega) (by omega) (by omega) (by omega)
      refine ⟨_, by simp [run, exs, x_set, x_own, x_unpack, x_par, x_put, x_append, x_pop, x_popTo, x_expr, x_ret, x_retN, x_ite, x_wh, x_for, x_brk, x_cont, x_pass, ev, evs, evI, o_list, o_listOf, o_dict0, startE, view_d, view_o, freeze_d, both_s, ix_l, ix_t, at0, at1, at2, cmpD, eqD, truE_b, sh_none, sh_bool, sh_int, sh_end, sh_pick, sh_throw, eqv_str, eqv_int, ne1, ne2, ne3, ne4, ne5, ne6, slot_l, slot_d, slot_k, look_f, look_t, seq_l, seq_t, list_l, asl_l, asl_t, freezeAll, VI.views, C0, biD, on1, lenB, intC, h, h0, hi, binD, mulD, addD, modD, m1, m2, a1, m3, m4]; rfl, ?_⟩
      exact Nat.le_trans (log_lt (k := 32) (by have := Int.emod_nonneg ((cl ns ((k : Int) * 7 % ns.length) % 2147483647 * 48271 + (k : Int) * 7919) * (cl ns ((k : Int) * 7 % ns.length) % 2147483647 * 48271 + (k : Int) * 7919)) (b := 2147483629) (by omega); have := Int.emod_lt_of_pos ((cl ns ((k : Int) * 7 % ns.length) % 2147483647 * 48271 + (k : Int) * 7919) * (cl ns ((k : Int) * 7 % ns.length) % 2147483647 * 48271 + (k : Int) * 7919)) (b := 2147483629) (by omega); omega)) (by omega)
    · have e0 : ns.length = 0 := by omega
      have nk : ¬ ((k : Nat) : Int) < 0 := by omega
      have m4 : mulOk ((k : Int) * 7919 + 11) ((k : Int) * 7919 + 11) = true := mulOk_sm (by omega) (by omega) (by omega) (by omega)
      refine ⟨((k : Int) * 7919 + 11) * ((k : Int) * 7919 + 11) % 2147483629, by simp [run, exs, x_set, x_own, x_unpack, x_par, x_put, x_append, x_pop, x_popTo, x_expr, x_ret, x_retN, x_ite, x_wh, x_for, x_brk, x_cont, x_pass, ev, evs, evI, o_list, o_listOf, o_dict0, startE, view_d, view_o, freeze_d, both_s, ix_l, ix_t, at0, at1, at2, cmpD, eqD, truE_b, sh_none, sh_bool, sh_int, sh_end, sh_pick, sh_throw, eqv_str, eqv_int, ne1, ne2, ne3, ne4, ne5, ne6, slot_l, slot_d, slot_k, look_f, look_t, seq_l, seq_t, list_l, asl_l, asl_t, freezeAll, VI.views, C0, biD, on1, lenB, intC, e0, nk, binD, mulD, addD, modD, m1, m4], ?_⟩
      exact Nat.le_trans (log_lt (k := 32) (by have := Int.emod_nonneg (((k : Int) * 7919 + 11) * ((k : Int) * 7919 + 11)) (b := 2147483629) (by omega); have := Int.emod_lt_of_pos (((k : Int) * 7919 + 11) * ((k : Int) * 7919 + 11)) (b := 2147483629) (by omega); omega)) (by omega)
theorem mixed {Φ : Fns} (c m : Int) (hm : 0 < m) : ∃ r : Int, run Φ C1 [.int c, .int m] = .ok (.int r) ∧ 0 ≤ r ∧ r < m := by
  have p1 : powD (.int 2) (.int 64) = some (.int 18446744073709551616) := by simp [powD, pow2ok]
  have p2 : powD (.int 2) (.int 11) = some (.int 2048) := by simp [powD, pow2ok]
  have q1 := Int.emod_nonneg c (b := 18446744073709551616) (by omega)
  have q2 := Int.emod_lt_of_pos c (b := 18446744073709551616) (by omega)
  have m1 : mulOk (c % 18446744073709551616) 11400714819323198485 = true := mulOk_sm (by omega) (by omega) (by omega) (by omega)
  have d1 : divOk 2048 = true := divOk_sm (by omega) (by omega)
  refine ⟨c % 18446744073709551616 * 11400714819323198485 % 18446744073709551616 / 2048 % m, ?_, Int.emod_nonneg _ (by omega), Int.emod_lt_of_pos _ hm⟩
  simp [run, exs, x_set, x_own, x_unpack, x_par, x_put, x_append, x_pop, x_popTo, x_expr, x_ret, x_retN, x_ite, x_wh, x_for, x_brk, x_cont, x_pass, ev, evs, evI, o_list, o_listOf, o_dict0, startE, view_d, view_o, freeze_d, both_s, ix_l, ix_t, at0, at1, at2, cmpD, eqD, truE_b, sh_none, sh_bool, sh_int, sh_end, sh_pick, sh_throw, eqv_str, eqv_int, ne1, ne2, ne3, ne4, ne5, ne6, slot_l, slot_d, slot_k, look_f, look_t, seq_l, seq_t, list_l, asl_l, asl_t, freezeAll, VI.views, C1, binD, p1, p2, modD, mulD, fdivD, m1, d1, hm]
/-! ### a comprehension whose items are known to be some -/
theorem choose_list {β γ : Type} (P : β → γ → Prop) : ∀ ys : List β, (∀ x ∈ ys, ∃ z, P x z) → ∃ f : List γ, f.length = ys.length ∧ ∀ (i : Nat) (x : β) (z : γ), ys[i]? = some x → f[i]? = some z → P x z
  | [], _ => ⟨[], rfl, by simp⟩
  | y :: ys, h => by
    obtain ⟨z, hz⟩ := h y List.mem_cons_self
    obtain ⟨f, h1, h2⟩ := choose_list P ys fun x hx => h x (List.mem_cons_of_mem _ hx)
    refine ⟨z :: f, by simp [h1], fun i x w hx hw => ?_⟩
    cases i with
    | zero => simp at hx hw; subst hx hw; exact hz
    | succ i => exact h2 i x w (by simpa using hx) (by simpa using hw)
theorem ev_compE {Φ : Fns} {β γ : Type} {elt : CE} {tg : Tg} {it : It} {vs : List Nat} {ρ : Env} {ys : List β} (e : β → PyData) (g : γ → PyData) (P : β → γ → Prop) (hi : evI Φ false it ρ = .ok (ys.map e) ρ) (ho : okWipe ρ vs = true) (hl : ys.length ≤ most)
    (h : ∀ x ∈ ys, ∃ ρ1, asg tg (e x) (wipeE ρ vs) = some ρ1 ∧ wipeE ρ1 vs = wipeE ρ vs ∧ ∃ z, ev Φ elt ρ1 = .ok (.d (g z)) ρ1 ∧ P x z) :
    ∃ zs : List γ, evO Φ (.comp elt tg it (.lit (.bool true)) vs) ρ = .ok (.lst (zs.map g)) ρ ∧ zs.length = ys.length ∧ ∀ (i : Nat) (x : β) (z : γ), ys[i]? = some x → zs[i]? = some z → P x z := by
  obtain ⟨zs, h1, h2⟩ := choose_list (fun (x : β) (z : γ) => ∃ ρ1, asg tg (e x) (wipeE ρ vs) = some ρ1 ∧ wipeE ρ1 vs = wipeE ρ vs ∧ ev Φ elt ρ1 = .ok (.d (g z)) ρ1 ∧ P x z) ys fun x hx => by
    obtain ⟨ρ1, a, b, z, c, d⟩ := h x hx
    exact ⟨z, ρ1, a, b, c, d⟩
  refine ⟨zs, ?_, h1, fun i x z hx hz => (h2 i x z hx hz).choose_spec.2.2.2⟩
  have key := ev_comp1 (Φ := Φ) (elt := elt) (tg := tg) (it := it) (vs := vs) (ρ := ρ) (ys := ys.zip zs) (fun p => e p.1) (fun p => g p.2) (by
    rw [hi]
    congr 1
    have : (ys.zip zs).map (fun p => e p.1) = ((ys.zip zs).map (·.1)).map e := by simp [Function.comp_def]
    rw [this, List.map_fst_zip (by omega)]) ho (by simp; omega) fun p hp => by
      obtain ⟨i, hi⟩ := List.getElem?_of_mem hp
      obtain ⟨a, b⟩ := List.getElem?_zip_eq_some.mp hi
      obtain ⟨ρ1, q1, q2, q3, _⟩ := h2 i p.1 p.2 a b
      exact ⟨ρ1, q1, q2, q3⟩
  rw [key]
  have : (ys.zip zs).map (fun p => g p.2) = ((ys.zip zs).map (·.2)).map g := by simp [Function.comp_def]
  rw [this, List.map_snd_zip (by omega)]
end AL
end VI
set_option Elab.async false
set_option linter.all false
set_option autoImplicit false
set_option maxRecDepth 20000
/-! What must hold behind a run: W, told step by step. -/
namespace VI
open PySem
def W {α : Type} (m : Out α) (E : Exc → Env → Prop) (Q : α → Env → Prop) : Prop := match m with
  | .ok a ρ => Q a ρ
  | .exc x ρ => E x ρ
  | .stuck => False
def WO {α : Type} (o : Option α) (Q : α → Prop) : Prop := match o with
  | some a => Q a
  | none => False
def R (r : PO) (E : Exc → Prop) (Q : PyData → Prop) : Prop := match r with
  | .ok x => Q x
  | .exc x => E x
  | .stuck => False
abbrev R0 (r : PO) (Q : PyData → Prop) : Prop := R r (fun _ => False) Q
theorem R_ok {x : PyData} {E : Exc → Prop} {Q : PyData → Prop} : R (.ok x) E Q = Q x := rfl
theorem R0_eq {r : PO} {x : PyData} (h : r = .ok x) {Q : PyData → Prop} (q : Q x) {E : Exc → Prop} : R r E Q := by rw [h]; exact q
theorem R0_is {r : PO} {x : PyData} (h : R0 r fun y => y = x) : r = .ok x := by
  unfold R0 R at h
  split at h
  · rw [h]
  · exact h.elim
  · exact h.elim
theorem R0_get {r : PO} {Q : PyData → Prop} (h : R0 r Q) : ∃ x, r = .ok x ∧ Q x := by
  unfold R0 R at h
  split at h
  · exact ⟨_, rfl, h⟩
  · exact h.elim
  · exact h.elim
theorem R.imp {r : PO} {E E' : Exc → Prop} {Q Q' : PyData → Prop} (h : R r E Q) (hq : ∀ x, Q x → Q' x) (he : ∀ x, E x → E' x) : R r E' Q' := by
  cases r <;> first | exact hq _ h | exact he _ h | exact h
theorem W.imp {α : Type} {m : Out α} {E E' : Exc → Env → Prop} {Q Q' : α → Env → Prop} (h : W m E Q) (hq : ∀ x ρ, Q x ρ → Q' x ρ) (he : ∀ x ρ, E x ρ → E' x ρ) : W m E' Q' := by
  cases m <;> first | exact hq _ _ h | exact he _ _ h | exact h
theorem W_get {α : Type} {m : Out α} {Q : α → Env → Prop} (h : W m (fun _ _ => False) Q) : ∃ a ρ, m = .ok a ρ ∧ Q a ρ := by
  cases m <;> first | exact ⟨_, _, rfl, h⟩ | exact h.elim
theorem w_ok {α : Type} (a : α) (ρ : Env) (E : Exc → Env → Prop) (Q : α → Env → Prop) : W (.ok a ρ) E Q = Q a ρ := rfl
theorem w_exc {α : Type} (x : Exc) (ρ : Env) (E : Exc → Env → Prop) (Q : α → Env → Prop) : W (.exc x ρ) E Q = E x ρ := rfl
theorem w_bind {α β : Type} (m : Out α) (f : α → Env → Out β) (E : Exc → Env → Prop) (Q : β → Env → Prop) : W (m.bind f) E Q = W m E fun a ρ => W (f a ρ) E Q := by cases m <;> rfl
theorem w_ofO {α : Type} (o : Option α) (ρ : Env) (E : Exc → Env → Prop) (Q : α → Env → Prop) : W (ofO o ρ) E Q = WO o fun a => Q a ρ := by cases o <;> rfl
theorem o_some {α : Type} (a : α) (Q : α → Prop) : WO (some a) Q = Q a := rfl
theorem o_map {α β : Type} (o : Option α) (f : α → β) (Q : β → Prop) : WO (o.map f) Q = WO o fun a => Q (f a) := by cases o <;> rfl
theorem o_bind {α β : Type} (o : Option α) (f : α → Option β) (Q : β → Prop) : WO (o.bind f) Q = WO o fun a => WO (f a) Q := by cases o <;> rfl
theorem o_ite {α : Type} (b : Bool) (a : α) (Q : α → Prop) : WO (if b = true then some a else none) Q = (b = true ∧ Q a) := by cases b <;> simp [WO]
theorem o_iteP {α : Type} (b : Prop) [Decidable b] (a : α) (Q : α → Prop) : WO (if b then some a else none) Q = (b ∧ Q a) := by by_cases h : b <;> simp [WO, h]
/-- a test -/
def WI (t : Bool) (A B : Prop) : Prop := if t then A else B
theorem WI_d {p : Prop} [Decidable p] {A B : Prop} (h1 : p → A) (h2 : ¬ p → B) : WI (decide p) A B := by by_cases h : p <;> simp [WI, h, h1, h2]
theorem WI_t {p : Prop} [Decidable p] {A B : Prop} (h : p) (h1 : A) : WI (decide p) A B := by simp [WI, h, h1]
theorem WI_f {p : Prop} [Decidable p] {A B : Prop} (h : ¬ p) (h1 : B) : WI (decide p) A B := by simp [WI, h, h1]
theorem i_t (A B : Prop) : WI true A B = A := rfl
theorem i_f (A B : Prop) : WI false A B = B := rfl
theorem i_d (p : Prop) [Decidable p] (A B : Prop) : WI (decide p) A B = ((p → A) ∧ (¬ p → B)) := by by_cases h : p <;> simp [WI, h]
theorem i_not (t : Bool) (A B : Prop) : WI (!t) A B = WI t B A := by cases t <;> rfl
theorem WI_of {t : Bool} {A B : Prop} (h1 : t = true → A) (h2 : t = false → B) : WI t A B := by cases t <;> first | exact h1 rfl | exact h2 rfl
section
variable {Φ : Fns} (ρ : Env) (E : Exc → Env → Prop)
/-! ### expressions -/
theorem w_lit (x : PyData) (Q : EV → Env → Prop) : W (ev Φ (.lit x) ρ) E Q = Q (.d x) ρ := by simp only [ev, w_ok]
theorem w_glob (n : Str) (x : PyData) (Q : EV → Env → Prop) : W (ev Φ (.glob n x) ρ) E Q = Q (.d x) ρ := by simp only [ev, w_ok]
def WV (s : Option SV) (i : Nat) (ρ : Env) (Q : EV → Env → Prop) : Prop := match s with
  | some (.d x) => Q (.d x) ρ
  | some .unb => False
  | some _ => Q (.own i) ρ
  | none => False
theorem w_var (i : Nat) (Q : EV → Env → Prop) : W (ev Φ (.var i) ρ) E Q = WV ρ[i]? i ρ Q := by
  simp only [ev, WV]
  cases ρ[i]? with
  | none => rfl
  | some s => cases s <;> rfl
theorem v_d (x : PyData) (i : Nat) (Q : EV → Env → Prop) : WV (some (.d x)) i ρ Q = Q (.d x) ρ := rfl
theorem v_l (ds : List PyData) (i : Nat) (Q : EV → Env → Prop) : WV (some (.lst ds)) i ρ Q = Q (.own i) ρ := rfl
theorem v_k (ds : List (NK × PyData)) (i : Nat) (Q : EV → Env → Prop) : WV (some (.dic ds)) i ρ Q = Q (.own i) ρ := rfl
theorem o_both {α : Type} (f : PyData → PyData → Option α) (x y : Option PyData) (Q : α → Prop) : WO (both f x y) Q = WO x fun x => WO y fun y => WO (f x y) Q := by
  unfold both
  simp only [o_bind]
theorem w_bin (op : BOp) (a b : CE) (Q : EV → Env → Prop) : W (ev Φ (.bin op a b) ρ) E Q = W (ev Φ a ρ) E fun x ρ => W (ev Φ b ρ) E fun y ρ => WO (view ρ x) fun x => WO (view ρ y) fun y => WO (binD op x y) fun z => Q (.d z) ρ := by
  simp only [ev, w_bind, w_ofO, o_map, o_both]
theorem w_neg (a : CE) (Q : EV → Env → Prop) : W (ev Φ (.neg a) ρ) E Q = W (ev Φ a ρ) E fun x ρ => WO (view ρ x) fun x => WO (negD x) fun z => Q (.d z) ρ := by
  simp only [ev, w_bind, w_ofO, o_map, o_bind]
theorem w_tru (v : EV) (Q : Bool → Env → Prop) : W (truE v ρ) E Q = WO (view ρ v) fun x => WO (truD x) fun t => Q t ρ := by
  simp only [truE, w_ofO, o_bind]
theorem w_not (a : CE) (Q : EV → Env → Prop) : W (ev Φ (.not a) ρ) E Q = W (ev Φ a ρ) E fun x ρ => W (truE x ρ) E fun b ρ => Q (.d (.bool !b)) ρ := by
  simp only [ev, w_bind, w_ok]
theorem w_if {α : Type} (t : Bool) (a b : Out α) (Q : α → Env → Prop) : W (if t then a else b) E Q = WI t (W a E Q) (W b E Q) := by cases t <;> rfl
theorem w_and (a b : CE) (Q : EV → Env → Prop) : W (ev Φ (.and a b) ρ) E Q = W (ev Φ a ρ) E fun x ρ => W (truE x ρ) E fun t ρ => WI t (W (ev Φ b ρ) E Q) (Q x ρ) := by
  simp only [ev, w_bind, w_if, w_ok]
theorem w_or (a b : CE) (Q : EV → Env → Prop) : W (ev Φ (.or a b) ρ) E Q = W (ev Φ a ρ) E fun x ρ => W (truE x ρ) E fun t ρ => WI t (Q x ρ) (W (ev Φ b ρ) E Q) := by
  simp only [ev, w_bind, w_if, w_ok]
theorem w_cmp (op : COp) (a b : CE) (Q : EV → Env → Prop) : W (ev Φ (.cmp op a b) ρ) E Q = W (ev Φ a ρ) E fun x ρ => W (ev Φ b ρ) E fun y ρ => WO (view ρ x) fun x => WO (view ρ y) fun y => WO (cmpD op x y) fun t => Q (.d (.bool t)) ρ := by
  simp only [ev, w_bind, w_ofO, o_map, o_both]
theorem w_chain (op op' : COp) (a b c : CE) (Q : EV → Env → Prop) : W (ev Φ (.chain op op' a b c) ρ) E Q = W (ev Φ a ρ) E fun x ρ => W (ev Φ b ρ) E fun y ρ => WO (view ρ x) fun x => WO (view ρ y) fun y' => WO (cmpD op x y') fun t =>
    WI t (W (ev Φ c ρ) E fun z ρ => WO (view ρ y) fun y => WO (view ρ z) fun z => WO (cmpD op' y z) fun t => Q (.d (.bool t)) ρ) (Q (.d (.bool false)) ρ) := by
  simp only [ev, w_bind, w_ofO, o_map, o_both, w_if, w_ok]
theorem w_ife (c a b : CE) (Q : EV → Env → Prop) : W (ev Φ (.ife c a b) ρ) E Q = W (ev Φ c ρ) E fun x ρ => W (truE x ρ) E fun t ρ => WI t (W (ev Φ a ρ) E Q) (W (ev Φ b ρ) E Q) := by
  simp only [ev, w_bind, w_if]
theorem w_call (f : Nat) (es : CEs) (Q : EV → Env → Prop) : W (ev Φ (.call f es) ρ) E Q = W (evs Φ es ρ) E fun vs ρ => WO (views ρ vs) fun xs => W (callE (Φ f xs) vs ρ) E Q := by
  simp only [ev, w_bind, w_ofO]
theorem w_bi (b : Bi) (es : CEs) (Q : EV → Env → Prop) : W (ev Φ (.bi b es) ρ) E Q = W (evs Φ es ρ) E fun vs ρ => WO (views ρ vs) fun xs => WO (biD b xs) fun z => Q (.d z) ρ := by
  simp only [ev, w_bind, w_ofO, o_map, o_bind]
theorem w_get2 (a k y : CE) (Q : EV → Env → Prop) : W (ev Φ (.get2 a k y) ρ) E Q = W (ev Φ a ρ) E fun x ρ => ((view ρ x).map tyD = some .dict ∧ W (ev Φ k ρ) E fun k ρ => W (ev Φ y ρ) E fun y ρ => W (freeze y ρ) E fun y ρ => WO (view ρ x) fun x => WO (view ρ k) fun k => WO (getD x k y) fun z => Q (.d z) ρ) := by
  have h : ∀ (p : Prop) [Decidable p] (m : Out EV), W (if p then m else .stuck) E Q = (p ∧ W m E Q) := fun p _ m => by by_cases hp : p <;> simp [hp, W]
  simp only [ev, w_bind, w_ofO, o_map, o_both, h]
theorem w_mt (m : Mt) (a : CE) (es : CEs) (Q : EV → Env → Prop) : W (ev Φ (.mt m a es) ρ) E Q = W (ev Φ a ρ) E fun x ρ => ((view ρ x).map tyD = some (mtTy m) ∧ W (evs Φ es ρ) E fun vs ρ => WO (view ρ x) fun x => WO (views ρ vs) fun xs => WO (mtD m x xs) fun z => Q (.d z) ρ) := by
  have h : ∀ (p : Prop) [Decidable p] (m : Out EV), W (if p then m else .stuck) E Q = (p ∧ W m E Q) := fun p _ m => by by_cases hp : p <;> simp [hp, W]
  simp only [ev, w_bind, w_ofO, o_map, o_bind, h]
theorem w_idx (a i : CE) (Q : EV → Env → Prop) : W (ev Φ (.idx a i) ρ) E Q = W (ev Φ a ρ) E fun x ρ => W (ev Φ i ρ) E fun y ρ => WO (view ρ x) fun x => WO (view ρ y) fun y => WO (idxD x y) fun z => Q (.d z) ρ := by
  simp only [ev, w_bind, w_ofO, o_map, o_both]
theorem w_slice (a lo hi : CE) (Q : EV → Env → Prop) : W (ev Φ (.slice a lo hi) ρ) E Q = W (ev Φ a ρ) E fun x ρ => W (ev Φ lo ρ) E fun l ρ => WO (partV (isNoneL lo) (view ρ l)) fun l => W (ev Φ hi ρ) E fun h ρ => WO (partV (isNoneL hi) (view ρ h)) fun h => WO (view ρ x) fun x => WO (sliceD x l h) fun z => Q (.d z) ρ := by
  simp only [ev, w_bind, w_ofO, o_map, o_bind]
theorem w_tuple (es : CEs) (Q : EV → Env → Prop) : W (ev Φ (.tuple es) ρ) E Q = W (evs Φ es ρ) E fun vs ρ => W (freezeAll vs ρ) E fun xs ρ => Q (.d (.tuple xs)) ρ := by
  simp only [ev, w_bind, w_ok]
theorem w_fr (c : CO) (Q : EV → Env → Prop) : W (ev Φ (.fr c) ρ) E Q = W (evO Φ c ρ) E fun s ρ => WO (slotD s) fun z => Q (.d z) ρ := by
  simp only [ev, w_bind, w_ofO, o_map]
theorem ws_nil (Q : List EV → Env → Prop) : W (evs Φ .nil ρ) E Q = Q [] ρ := by simp only [evs, w_ok]
theorem ws_cons (e : CE) (es : CEs) (Q : List EV → Env → Prop) : W (evs Φ (.cons e es) ρ) E Q = W (ev Φ e ρ) E fun v ρ => W (evs Φ es ρ) E fun vs ρ => Q (v :: vs) ρ := by
  simp only [evs, w_bind, w_ok]
theorem wo_list (es : CEs) (Q : SV → Env → Prop) : W (evO Φ (.list es) ρ) E Q = W (evs Φ es ρ) E fun vs ρ => W (freezeAll vs ρ) E fun xs ρ => Q (.lst xs) ρ := by
  simp only [evO, w_bind, w_ok]
theorem wo_listOf (a : CE) (Q : SV → Env → Prop) : W (evO Φ (.listOf a) ρ) E Q = W (ev Φ a ρ) E fun x ρ => WO (view ρ x) fun x => WO (asList x) fun xs => Q (.lst xs) ρ := by
  simp only [evO, w_bind, w_ofO, o_map, o_bind]
theorem wo_dict0 (Q : SV → Env → Prop) : W (evO Φ .dict0 ρ) E Q = Q (.dic []) ρ := by simp only [evO, w_ok]
theorem wo_dict1 (k x : CE) (Q : SV → Env → Prop) : W (evO Φ (.dict1 k x) ρ) E Q = W (ev Φ k ρ) E fun k ρ => W (ev Φ x ρ) E fun x ρ => W (freeze x ρ) E fun x ρ => WO (view ρ k) fun k => WO (dKey [] k) fun k => Q (.dic [(k, x)]) ρ := by
  simp only [evO, w_bind, w_ofO, w_ok, o_bind]
variable (Φ) in
/-- a comprehension's walk -/
def CW (elt cond : CE) (tg : Tg) (vs : List Nat) (xs : List PyData) (ρ : Env) (Q : SV → Env → Prop) : Prop :=
  okWipe ρ vs = true ∧ W (compL (fun ρ => ev Φ elt ρ) (fun ρ => ev Φ cond ρ) tg ρ vs xs [] ρ) E fun ys ρ' => Q (.lst ys) (backE ρ ρ' vs)
theorem wo_comp (elt cond : CE) (tg : Tg) (it : It) (vs : List Nat) (Q : SV → Env → Prop) : W (evO Φ (.comp elt tg it cond vs) ρ) E Q = W (evI Φ false it ρ) E fun xs ρ => CW Φ E elt cond tg vs xs ρ Q := by
  have h : ∀ (p : Bool) (m : Out SV), W (if p then m else .stuck) E Q = (p = true ∧ W m E Q) := fun p m => by cases p <;> simp [W]
  simp only [evO, w_bind, w_ok, h, CW]
theorem wi_seq (fz : Bool) (a : CE) (Q : List PyData → Env → Prop) : W (evI Φ fz (.seq a) ρ) E Q = W (ev Φ a ρ) E fun x ρ => W (look fz x ρ) E fun x ρ => WO (seqD x) fun xs => Q xs ρ := by
  simp only [evI, w_bind, w_ofO]
theorem wi_range1 (fz : Bool) (a : CE) (Q : List PyData → Env → Prop) : W (evI Φ fz (.range1 a) ρ) E Q = W (ev Φ a ρ) E fun x ρ => WO (view ρ x) fun x => WO (intP x) fun i => (range62 i = true ∧ Q (rangeD 0 i) ρ) := by
  have h : ∀ (p : Bool) (m : Out (List PyData)), W (if p then m else .stuck) E Q = (p = true ∧ W m E Q) := fun p m => by cases p <;> simp [W]
  simp only [evI, w_bind, w_ofO, o_bind, h, w_ok]
theorem wi_range2 (fz : Bool) (a b : CE) (Q : List PyData → Env → Prop) : W (evI Φ fz (.range2 a b) ρ) E Q = W (ev Φ a ρ) E fun x ρ => W (ev Φ b ρ) E fun y ρ => WO (view ρ x) fun x => WO (intP x) fun i => WO (view ρ y) fun y => WO (intP y) fun j => ((range62 i && range62 j) = true ∧ Q (rangeD i j) ρ) := by
  have h : ∀ (p : Bool) (m : Out (List PyData)), W (if p then m else .stuck) E Q = (p = true ∧ W m E Q) := fun p m => by cases p <;> simp [W]
  simp only [evI, w_bind, w_ofO, o_bind, h, w_ok]
theorem wi_enum (fz : Bool) (a : CE) (Q : List PyData → Env → Prop) : W (evI Φ fz (.enum a) ρ) E Q = W (ev Φ a ρ) E fun x ρ => W (look fz x ρ) E fun x ρ => WO (listD x) fun xs => Q (enumD xs) ρ := by
  simp only [evI, w_bind, w_ofO, o_map]
theorem wi_zip (fz : Bool) (a b : CE) (Q : List PyData → Env → Prop) : W (evI Φ fz (.zip a b) ρ) E Q = W (ev Φ a ρ) E fun x ρ => W (ev Φ b ρ) E fun y ρ => W (look fz x ρ) E fun x ρ => W (look fz y ρ) E fun y ρ => WO (listD x) fun xs => WO (listD y) fun ys => Q (zipD xs ys) ρ := by
  simp only [evI, w_bind, w_ofO, o_map, o_bind]
theorem wi_rev (fz : Bool) (a : CE) (Q : List PyData → Env → Prop) : W (evI Φ fz (.rev a) ρ) E Q = W (ev Φ a ρ) E fun x ρ => W (look fz x ρ) E fun x ρ => WO (listD x) fun xs => Q xs.reverse ρ := by
  simp only [evI, w_bind, w_ofO, o_map]
theorem wi_keys (fz : Bool) (a : CE) (Q : List PyData → Env → Prop) : W (evI Φ fz (.keys a) ρ) E Q = W (ev Φ a ρ) E fun x ρ => WO (keysV fz x) fun xs => Q xs ρ := by
  simp only [evI, w_bind, w_ofO]
theorem w_lookf (v : EV) (Q : PyData → Env → Prop) : W (look false v ρ) E Q = WO (view ρ v) fun x => Q x ρ := by simp only [look_f, w_ofO]
theorem w_lookt (v : EV) (Q : PyData → Env → Prop) : W (look true v ρ) E Q = W (freeze v ρ) E Q := by simp only [look_t]
theorem w_frd (x : PyData) (Q : PyData → Env → Prop) : W (freeze (.d x) ρ) E Q = Q x ρ := rfl
def WF (s : Option SV) (i : Nat) (ρ : Env) (Q : PyData → Env → Prop) : Prop := WO (s.bind slotD) fun x => Q x (ρ.set i (.d x))
theorem w_fro (i : Nat) (Q : PyData → Env → Prop) : W (freeze (.own i) ρ) E Q = WF ρ[i]? i ρ Q := by
  show W (match ρ[i]?.bind slotD with
    | some x => Out.ok x (ρ.set i (.d x))
    | none => .stuck) E Q = _
  unfold WF
  cases ρ[i]?.bind slotD <;> rfl
theorem f_l (ds : List PyData) (i : Nat) (Q : PyData → Env → Prop) : WF (some (.lst ds)) i ρ Q = Q (.list ds) (ρ.set i (.d (.list ds))) := rfl
theorem f_k (ds : List (NK × PyData)) (i : Nat) (Q : PyData → Env → Prop) : WF (some (.dic ds)) i ρ Q = Q (dictOf ds) (ρ.set i (.d (dictOf ds))) := rfl
theorem w_fa0 (Q : List PyData → Env → Prop) : W (freezeAll [] ρ) E Q = Q [] ρ := rfl
theorem w_fa1 (v : EV) (vs : List EV) (Q : List PyData → Env → Prop) : W (freezeAll (v :: vs) ρ) E Q = W (freeze v ρ) E fun x ρ => W (freezeAll vs ρ) E fun xs ρ => Q (x :: xs) ρ := by
  simp only [freezeAll, w_bind, w_ok]
theorem o_view (i : Nat) (Q : PyData → Prop) : WO (view ρ (.own i)) Q = WO (ρ[i]?.bind slotD) Q := rfl
theorem o_viewd (x : PyData) (Q : PyData → Prop) : WO (view ρ (.d x)) Q = Q x := rfl
theorem o_views0 (Q : List PyData → Prop) : WO (views ρ []) Q = Q [] := rfl
theorem o_views1 (v : EV) (vs : List EV) (Q : List PyData → Prop) : WO (views ρ (v :: vs)) Q = WO (view ρ v) fun x => WO (views ρ vs) fun xs => Q (x :: xs) := by
  show WO (match view ρ v, views ρ vs with
    | some x, some xs => some (x :: xs)
    | _, _ => none) Q = _
  generalize views ρ vs = b
  cases view ρ v <;> cases b <;> rfl
/-! calls -/
theorem uc_int (i : Int) (vs : List EV) (Q : EV → Env → Prop) : W (callE (.ok (.int i)) vs ρ) E Q = Q (.d (.int i)) ρ := rfl
theorem uc_bool (i : Bool) (vs : List EV) (Q : EV → Env → Prop) : W (callE (.ok (.bool i)) vs ρ) E Q = Q (.d (.bool i)) ρ := rfl
theorem uc_str (i : Str) (vs : List EV) (Q : EV → Env → Prop) : W (callE (.ok (.str i)) vs ρ) E Q = Q (.d (.str i)) ρ := rfl
theorem uc_none (vs : List EV) (Q : EV → Env → Prop) : W (callE (.ok .none) vs ρ) E Q = Q (.d .none) ρ := rfl
theorem uc_ns {x : PyData} (h : isScalar x = false) (vs : List EV) (Q : EV → Env → Prop) : W (callE (.ok x) vs ρ) E Q = W (freezeAll vs ρ) E fun _ ρ => Q (.d x) ρ := by
  simp only [callE, h, Bool.false_eq_true, if_false, w_bind, w_ok]
theorem uc_list (xs : List PyData) (vs : List EV) (Q : EV → Env → Prop) : W (callE (.ok (.list xs)) vs ρ) E Q = W (freezeAll vs ρ) E fun _ ρ => Q (.d (.list xs)) ρ := uc_ns _ _ rfl _ _
theorem uc_tuple (xs : List PyData) (vs : List EV) (Q : EV → Env → Prop) : W (callE (.ok (.tuple xs)) vs ρ) E Q = W (freezeAll vs ρ) E fun _ ρ => Q (.d (.tuple xs)) ρ := uc_ns _ _ rfl _ _
def allD : List EV → Bool
  | [] => true
  | .d _ :: r => allD r
  | _ :: _ => false
theorem uc_d {x : PyData} : ∀ {vs : List EV} (h : allD vs = true) (Q : EV → Env → Prop), W (callE (.ok x) vs ρ) E Q = Q (.d x) ρ := by
  have key : ∀ (vs : List EV), allD vs = true → ∀ (Q : List PyData → Env → Prop), (∃ xs, W (freezeAll vs ρ) E Q = Q xs ρ) := by
    intro vs
    induction vs with
    | nil => exact fun _ Q => ⟨[], rfl⟩
    | cons v vs ih =>
      intro h Q
      cases v with
      | own i => cases h
      | d y =>
        obtain ⟨xs, e⟩ := ih h fun xs ρ => Q (y :: xs) ρ
        exact ⟨y :: xs, by rw [w_fa1, w_frd, e]⟩
  intro vs h Q
  by_cases hx : isScalar x = true
  · simp only [callE, hx, if_true, w_ok]
  · rw [uc_ns _ _ (by simpa using hx)]
    obtain ⟨_, e⟩ := key vs h fun _ ρ => Q (.d x) ρ
    exact e
variable {ρ E} in
/-- a call, its arguments pure -/
theorem call_d {r : PO} {vs : List EV} {Q : EV → Env → Prop} {P : PyData → Prop} {Ex : Exc → Prop} (h : R r Ex P) (hd : allD vs = true) (hq : ∀ x, P x → Q (.d x) ρ) (he : ∀ x, Ex x → E x ρ) : W (callE r vs ρ) E Q := by
  cases r with
  | ok x => rw [uc_d _ _ hd]; exact hq x h
  | exc x => exact he x h
  | stuck => exact h.elim
variable {ρ E} in
theorem call0 {r : PO} {vs : List EV} {Q : EV → Env → Prop} {P : PyData → Prop} (h : R0 r P) (hd : allD vs = true) (hq : ∀ x, P x → Q (.d x) ρ) : W (callE r vs ρ) E Q := call_d h hd hq fun _ h => h.elim
variable {ρ E} in
theorem call_ok {r : PO} {vs : List EV} {Q : EV → Env → Prop} {x : PyData} (h : r = .ok x) (hd : allD vs = true) (hq : Q (.d x) ρ) : W (callE r vs ρ) E Q := by rw [h, uc_d _ _ hd]; exact hq
/-! ### statements -/
variable (Φ) in
def K (r : CSs) (E : Exc → Env → Prop) (Q : Fl → Env → Prop) (f : Fl) (ρ : Env) : Prop := match f with
  | .nx => W (exs Φ r ρ) E Q
  | f => Q f ρ
theorem k_nx (r : CSs) (Q : Fl → Env → Prop) : K Φ r E Q .nx ρ = W (exs Φ r ρ) E Q := rfl
theorem k_bk (r : CSs) (Q : Fl → Env → Prop) : K Φ r E Q .bk ρ = Q .bk ρ := rfl
theorem k_ct (r : CSs) (Q : Fl → Env → Prop) : K Φ r E Q .ct ρ = Q .ct ρ := rfl
theorem k_rt (r : CSs) (x : PyData) (Q : Fl → Env → Prop) : K Φ r E Q (.rt x) ρ = Q (.rt x) ρ := rfl
theorem w_nil (Q : Fl → Env → Prop) : W (exs Φ .nil ρ) E Q = Q .nx ρ := by simp only [exs, w_ok]
theorem w_cons (s : CS) (r : CSs) (Q : Fl → Env → Prop) : W (exs Φ (.cons s r) ρ) E Q = W (ex Φ s ρ) E (K Φ r E Q) := by
  rw [exs, w_bind]
  congr 1
  funext f ρ
  cases f <;> rfl
variable {ρ E} in
theorem cut {s : CS} {r : CSs} {Q : Fl → Env → Prop} (M : Fl → Env → Prop) (h : W (ex Φ s ρ) E M) (h2 : ∀ f ρ, M f ρ → K Φ r E Q f ρ) : W (exs Φ (.cons s r) ρ) E Q := by
  rw [w_cons]
  exact W.imp h h2 fun _ _ h => h
variable {ρ E} in
/-- .. the statement going on -/
theorem cutn {s : CS} {r : CSs} {Q : Fl → Env → Prop} (M : Env → Prop) (h : W (ex Φ s ρ) E fun f ρ => (f = .nx ∧ M ρ)) (h2 : ∀ ρ, M ρ → W (exs Φ r ρ) E Q) : W (exs Φ (.cons s r) ρ) E Q :=
  cut _ h fun f ρ ⟨hf, hm⟩ => by subst hf; exact h2 ρ hm
theorem w_set (i : Nat) (e : CE) (Q : Fl → Env → Prop) : W (ex Φ (.set i e) ρ) E Q = W (ev Φ e ρ) E fun v ρ => W (freeze v ρ) E fun x ρ => Q .nx (ρ.set i (.d x)) := by simp only [x_set, w_bind, w_ok]
theorem w_own (i : Nat) (e : CO) (Q : Fl → Env → Prop) : W (ex Φ (.own i e) ρ) E Q = W (evO Φ e ρ) E fun s ρ => Q .nx (ρ.set i s) := by simp only [x_own, w_bind, w_ok]
theorem w_unpack (is : List Nat) (e : CE) (Q : Fl → Env → Prop) : W (ex Φ (.unpack is e) ρ) E Q = W (ev Φ e ρ) E fun v ρ => W (freeze v ρ) E fun x ρ => WO (asg (.tup is) x ρ) fun ρ => Q .nx ρ := by
  simp only [x_unpack, w_bind]
  congr 1
  funext v ρ
  congr 1
  funext x ρ
  cases asg (.tup is) x ρ <;> rfl
theorem w_par (is : List Nat) (es : CEs) (Q : Fl → Env → Prop) : W (ex Φ (.par is es) ρ) E Q = W (evs Φ es ρ) E fun vs ρ => W (freezeAll vs ρ) E fun xs ρ => (xs.length = is.length ∧ Q .nx (setAll is xs ρ)) := by
  have h : ∀ (p : Prop) [Decidable p] (m : Out Fl), W (if p then m else .stuck) E Q = (p ∧ W m E Q) := fun p _ m => by by_cases hp : p <;> simp [hp, W]
  simp only [x_par, w_bind, h, w_ok]
theorem w_put (i : Nat) (k e : CE) (Q : Fl → Env → Prop) : W (ex Φ (.put i k e) ρ) E Q = W (ev Φ e ρ) E fun v ρ => W (freeze v ρ) E fun x ρ => (isOwn ρ i = true ∧ W (ev Φ k ρ) E fun k ρ => W (putE i (view ρ k) x ρ) E Q) := by
  have h : ∀ (p : Bool) (m : Out Fl), W (if p then m else .stuck) E Q = (p = true ∧ W m E Q) := fun p m => by cases p <;> simp [W]
  simp only [x_put, w_bind, h]
theorem w_append (i : Nat) (e : CE) (Q : Fl → Env → Prop) : W (ex Φ (.append i e) ρ) E Q = (isLst ρ i = true ∧ W (ev Φ e ρ) E fun v ρ => W (freeze v ρ) E fun x ρ => W (onLst i (fun ds => if small (ds.length + 1) then some (ds ++ [x]) else none) ρ) E Q) := by
  have h : ∀ (p : Bool) (m : Out Fl), W (if p then m else .stuck) E Q = (p = true ∧ W m E Q) := fun p m => by cases p <;> simp [W]
  simp only [x_append, w_bind, h]
theorem w_insert (i : Nat) (k e : CE) (Q : Fl → Env → Prop) : W (ex Φ (.insert i k e) ρ) E Q = (isLst ρ i = true ∧ W (ev Φ k ρ) E fun k ρ => W (ev Φ e ρ) E fun v ρ => W (freeze v ρ) E fun x ρ => WO (view ρ k) fun k => WO (intP k) fun j =>
    W (onLst i (fun ds => if small (ds.length + 1) && decide (0 ≤ j) && decide (j < 2 ^ 63) then some (ds.take j.toNat ++ [x] ++ ds.drop j.toNat) else none) ρ) E Q) := by
  have h : ∀ (p : Bool) (m : Out Fl), W (if p then m else .stuck) E Q = (p = true ∧ W m E Q) := fun p m => by cases p <;> simp [W]
  simp only [ex, w_bind, h, w_ofO, o_bind]
theorem w_pop (i : Nat) (Q : Fl → Env → Prop) : W (ex Φ (.pop i) ρ) E Q = W (onLst i (fun ds => if ds.isEmpty then none else some ds.dropLast) ρ) E Q := by simp only [x_pop]
theorem w_popTo (j i : Nat) (Q : Fl → Env → Prop) : W (ex Φ (.popTo j i) ρ) E Q = WO (lastOf ρ i) fun x => W (onLst i (fun ds => some ds.dropLast) ρ) E fun _ ρ => Q .nx (ρ.set j (.d x)) := by simp only [x_popTo, w_bind, w_ofO, w_ok]
def WL (s : Option SV) (i : Nat) (f : List PyData → Option (List PyData)) (ρ : Env) (Q : Fl → Env → Prop) : Prop := match s with
  | some (.lst ds) => WO (f ds) fun ds => Q .nx (ρ.set i (.lst ds))
  | _ => False
theorem w_onl (i : Nat) (f : List PyData → Option (List PyData)) (Q : Fl → Env → Prop) : W (onLst i f ρ) E Q = WL ρ[i]? i f ρ Q := by
  unfold onLst WL
  cases ρ[i]? with
  | none => rfl
  | some s =>
    cases s with
    | lst ds => simp only; cases f ds <;> rfl
    | _ => rfl
theorem l_l (ds : List PyData) (i : Nat) (f : List PyData → Option (List PyData)) (Q : Fl → Env → Prop) : WL (some (.lst ds)) i f ρ Q = WO (f ds) fun ds => Q .nx (ρ.set i (.lst ds)) := rfl
def WP (s : Option SV) (i : Nat) (k : Option PyData) (x : PyData) (ρ : Env) (Q : Fl → Env → Prop) : Prop := match s with
  | some (.lst ds) => WO k fun k => WO (listPut ds k x) fun ds => Q .nx (ρ.set i (.lst ds))
  | some (.dic kvs) => WO k fun k => WO (dKey kvs k) fun k => (small (kvs.length + 1) = true ∧ Q .nx (ρ.set i (.dic (dPut kvs k x))))
  | _ => False
theorem w_putE (i : Nat) (k : Option PyData) (x : PyData) (Q : Fl → Env → Prop) : W (putE i k x ρ) E Q = WP ρ[i]? i k x ρ Q := by
  unfold putE WP
  cases hs : ρ[i]? with
  | none => rfl
  | some s =>
    cases s with
    | lst ds =>
      cases k with
      | none => rfl
      | some k => simp only [Option.bind_some, o_some]; cases listPut ds k x <;> rfl
    | dic kvs =>
      cases k with
      | none => rfl
      | some k =>
        simp only [Option.bind_some, o_some]
        cases dKey kvs k with
        | none => rfl
        | some k =>
          simp only [o_some]
          cases small (kvs.length + 1) <;> simp [W]
    | _ => rfl
theorem p_l (ds : List PyData) (i : Nat) (k : Option PyData) (x : PyData) (Q : Fl → Env → Prop) : WP (some (.lst ds)) i k x ρ Q = WO k fun k => WO (listPut ds k x) fun ds => Q .nx (ρ.set i (.lst ds)) := rfl
theorem p_k (kvs : List (NK × PyData)) (i : Nat) (k : Option PyData) (x : PyData) (Q : Fl → Env → Prop) : WP (some (.dic kvs)) i k x ρ Q = WO k fun k => WO (dKey kvs k) fun k => (small (kvs.length + 1) = true ∧ Q .nx (ρ.set i (.dic (dPut kvs k x)))) := rfl
def WLast (s : Option SV) (Q : PyData → Prop) : Prop := match s with
  | some (.lst ds) => WO ds.getLast? Q
  | _ => False
theorem o_last (i : Nat) (Q : PyData → Prop) : WO (lastOf ρ i) Q = WLast ρ[i]? Q := by
  unfold lastOf WLast
  cases ρ[i]? with
  | none => rfl
  | some s => cases s <;> rfl
theorem la_l (ds : List PyData) (Q : PyData → Prop) : WLast (some (.lst ds)) Q = WO ds.getLast? Q := rfl
theorem w_expr (e : CE) (Q : Fl → Env → Prop) : W (ex Φ (.expr e) ρ) E Q = W (ev Φ e ρ) E fun _ ρ => Q .nx ρ := by simp only [x_expr, w_bind, w_ok]
theorem w_ret (e : CE) (Q : Fl → Env → Prop) : W (ex Φ (.ret e) ρ) E Q = W (ev Φ e ρ) E fun v ρ => W (freeze v ρ) E fun x ρ => Q (.rt x) ρ := by simp only [x_ret, w_bind, w_ok]
theorem w_retN (Q : Fl → Env → Prop) : W (ex Φ .retN ρ) E Q = Q (.rt .none) ρ := by simp only [x_retN, w_ok]
theorem w_ite (c : CE) (a b : CSs) (Q : Fl → Env → Prop) : W (ex Φ (.ite c a b) ρ) E Q = W (ev Φ c ρ) E fun v ρ => W (truE v ρ) E fun t ρ => WI t (W (exs Φ a ρ) E Q) (W (exs Φ b ρ) E Q) := by simp only [x_ite, w_bind, w_if]
theorem w_wh (c : CE) (b : CSs) (Q : Fl → Env → Prop) : W (ex Φ (.wh c b) ρ) E Q = W (whl Φ c b fuelW ρ) E Q := by simp only [x_wh]
theorem w_for (tg : Tg) (it : It) (b : CSs) (Q : Fl → Env → Prop) : W (ex Φ (.for_ tg it b) ρ) E Q = W (evI Φ true it ρ) E fun xs ρ => W (frl Φ tg b xs ρ) E Q := by simp only [x_for, w_bind]
theorem w_brk (Q : Fl → Env → Prop) : W (ex Φ .brk ρ) E Q = Q .bk ρ := by simp only [x_brk, w_ok]
theorem w_cont (Q : Fl → Env → Prop) : W (ex Φ .cont ρ) E Q = Q .ct ρ := by simp only [x_cont, w_ok]
theorem w_pass (Q : Fl → Env → Prop) : W (ex Φ .pass ρ) E Q = Q .nx ρ := by simp only [x_pass, w_ok]
end
/-! ### what operations ask -/
theorem a_ii (i j : Int) (Q : PyData → Prop) : WO (binD .add (.int i) (.int j)) Q = Q (.int (i + j)) := rfl
theorem a_ss (x y : Str) (Q : PyData → Prop) : WO (binD .add (.str x) (.str y)) Q = (small (x.length + y.length) = true ∧ Q (.str (x ++ y))) := o_ite _ _ _
theorem a_ll (x y : List PyData) (Q : PyData → Prop) : WO (binD .add (.list x) (.list y)) Q = (small (x.length + y.length) = true ∧ Q (.list (x ++ y))) := o_ite _ _ _
theorem a_tt (x y : List PyData) (Q : PyData → Prop) : WO (binD .add (.tuple x) (.tuple y)) Q = (small (x.length + y.length) = true ∧ Q (.tuple (x ++ y))) := o_ite _ _ _
theorem s_ii (i j : Int) (Q : PyData → Prop) : WO (binD .sub (.int i) (.int j)) Q = Q (.int (i - j)) := rfl
theorem m_ii (i j : Int) (Q : PyData → Prop) : WO (binD .mul (.int i) (.int j)) Q = (mulOk i j = true ∧ Q (.int (i * j))) := o_ite _ _ _
theorem d_ii (i j : Int) (Q : PyData → Prop) : WO (binD .fdiv (.int i) (.int j)) Q = (divOk j = true ∧ Q (.int (i / j))) := o_ite _ _ _
theorem r_ii (i j : Int) (Q : PyData → Prop) : WO (binD .mod (.int i) (.int j)) Q = (0 < j ∧ Q (.int (i % j))) := o_iteP _ _ _
theorem pow_ii (i j : Int) (Q : PyData → Prop) : WO (binD .pow (.int i) (.int j)) Q = (pow2ok i j = true ∧ Q (.int (i ^ j.toNat))) := o_ite _ _ _
theorem t_none (Q : Bool → Prop) : WO (truD .none) Q = Q false := rfl
theorem t_bool (b : Bool) (Q : Bool → Prop) : WO (truD (.bool b)) Q = Q b := rfl
theorem t_int (i : Int) (Q : Bool → Prop) : WO (truD (.int i)) Q = Q (i != 0) := rfl
theorem t_list (xs : List PyData) (Q : Bool → Prop) : WO (truD (.list xs)) Q = Q (!xs.isEmpty) := rfl
theorem t_tuple (xs : List PyData) (Q : Bool → Prop) : WO (truD (.tuple xs)) Q = Q (!xs.isEmpty) := rfl
theorem n_int (i : Int) (Q : PyData → Prop) : WO (negD (.int i)) Q = Q (.int (-i)) := rfl
theorem lt_ii (i j : Int) (Q : Bool → Prop) : WO (cmpD .lt (.int i) (.int j)) Q = Q (decide (i < j)) := rfl
theorem le_ii (i j : Int) (Q : Bool → Prop) : WO (cmpD .le (.int i) (.int j)) Q = Q (decide (i ≤ j)) := rfl
theorem gt_ii (i j : Int) (Q : Bool → Prop) : WO (cmpD .gt (.int i) (.int j)) Q = Q (decide (j < i)) := rfl
theorem ge_ii (i j : Int) (Q : Bool → Prop) : WO (cmpD .ge (.int i) (.int j)) Q = Q (decide (j ≤ i)) := rfl
theorem eq_ii (i j : Int) (Q : Bool → Prop) : WO (cmpD .eq (.int i) (.int j)) Q = Q (decide (i = j)) := by
  have : cmpD .eq (.int i) (.int j) = some (decide (i = j)) := by simp [cmpD, eqD, sh_int, eqv_int, Bool.beq_eq_decide_eq]
  rw [this]; rfl
theorem ne_ii (i j : Int) (Q : Bool → Prop) : WO (cmpD .ne (.int i) (.int j)) Q = Q (!decide (i = j)) := by
  have : cmpD .ne (.int i) (.int j) = some (!decide (i = j)) := by simp [cmpD, eqD, sh_int, eqv_int, Bool.beq_eq_decide_eq]
  rw [this]; rfl
theorem eq_bb (i j : Bool) (Q : Bool → Prop) : WO (cmpD .eq (.bool i) (.bool j)) Q = Q (decide (i = j)) := by
  have : cmpD .eq (.bool i) (.bool j) = some (decide (i = j)) := by cases i <;> cases j <;> rfl
  rw [this]; rfl
theorem ne_bb (i j : Bool) (Q : Bool → Prop) : WO (cmpD .ne (.bool i) (.bool j)) Q = Q (!decide (i = j)) := by
  have : cmpD .ne (.bool i) (.bool j) = some (!decide (i = j)) := by cases i <;> cases j <;> rfl
  rw [this]; rfl
theorem is_bb (i j : Bool) (Q : Bool → Prop) : WO (cmpD .is (.bool i) (.bool j)) Q = Q (decide (i = j)) := rfl
theorem isn_bb (i j : Bool) (Q : Bool → Prop) : WO (cmpD .isNot (.bool i) (.bool j)) Q = Q (!decide (i = j)) := rfl
theorem isn_nn (Q : Bool → Prop) : WO (cmpD .isNot .none .none) Q = Q false := rfl
theorem is_nn (Q : Bool → Prop) : WO (cmpD .is .none .none) Q = Q true := rfl
theorem is_in (i : Int) (Q : Bool → Prop) : WO (cmpD .is (.int i) .none) Q = Q false := rfl
theorem isn_in (i : Int) (Q : Bool → Prop) : WO (cmpD .isNot (.int i) .none) Q = Q true := rfl
theorem is_tn (i : List PyData) (Q : Bool → Prop) : WO (cmpD .is (.tuple i) .none) Q = Q false := rfl
theorem isn_tn (i : List PyData) (Q : Bool → Prop) : WO (cmpD .isNot (.tuple i) .none) Q = Q true := rfl
theorem eq_ss (i j : Str) (h : SeqAt.shaped (.str i) = true) (h' : SeqAt.shaped (.str j) = true) (Q : Bool → Prop) : WO (cmpD .eq (.str i) (.str j)) Q = Q (i == j) := by
  have : cmpD .eq (.str i) (.str j) = some (i == j) := by simp [cmpD, eqD, h, h', eqv_str]
  rw [this]; rfl
theorem i_li (xs : List PyData) (i : Int) (Q : PyData → Prop) : WO (idxD (.list xs) (.int i)) Q = WO (L2.atI xs i) Q := rfl
theorem i_ti (xs : List PyData) (i : Int) (Q : PyData → Prop) : WO (idxD (.tuple xs) (.int i)) Q = WO (L2.atI xs i) Q := rfl
theorem sq_l (xs : List PyData) (Q : List PyData → Prop) : WO (seqD (.list xs)) Q = Q xs := rfl
theorem sq_t (xs : List PyData) (Q : List PyData → Prop) : WO (seqD (.tuple xs)) Q = Q xs := rfl
theorem sq_s (z : Str) (Q : List PyData → Prop) : WO (seqD (.str z)) Q = Q (signs z) := rfl
theorem ll_l (xs : List PyData) (Q : List PyData → Prop) : WO (listD (.list xs)) Q = Q xs := rfl
theorem as_l (xs : List PyData) (Q : List PyData → Prop) : WO (asList (.list xs)) Q = Q xs := rfl
theorem as_t (xs : List PyData) (Q : List PyData → Prop) : WO (asList (.tuple xs)) Q = Q xs := rfl
theorem ip_i (i : Int) (Q : Int → Prop) : WO (intP (.int i)) Q = Q i := rfl
theorem b_lenl (xs : List PyData) (Q : PyData → Prop) : WO (biD .len [.list xs]) Q = Q (.int xs.length) := rfl
theorem b_lent (xs : List PyData) (Q : PyData → Prop) : WO (biD .len [.tuple xs]) Q = Q (.int xs.length) := rfl
theorem b_lens (x : Str) (Q : PyData → Prop) : WO (biD .len [.str x]) Q = (small x.length = true ∧ Q (.int x.length)) := o_ite _ _ _
theorem b_abs (i : Int) (Q : PyData → Prop) : WO (biD .abs [.int i]) Q = Q (.int i.natAbs) := by
  show Q _ = _
  congr 2
  split <;> omega
theorem b_inti (i : Int) (Q : PyData → Prop) : WO (biD .int [.int i]) Q = Q (.int i) := rfl
theorem b_intb (b : Bool) (Q : PyData → Prop) : WO (biD .int [.bool b]) Q = Q (.int (if b then 1 else 0)) := rfl
theorem b_tl (xs : List PyData) (Q : PyData → Prop) : WO (biD .tuple [.list xs]) Q = Q (.tuple xs) := rfl
theorem b_isb (b : Bool) (Q : PyData → Prop) : WO (biD .isBool [.bool b]) Q = Q (.bool true) := rfl
theorem b_isl (xs : List PyData) (Q : PyData → Prop) : WO (biD .isList [.list xs]) Q = Q (.bool true) := rfl
theorem b_ist (xs : List PyData) (Q : PyData → Prop) : WO (biD .isTuple [.tuple xs]) Q = Q (.bool true) := rfl
theorem b_isi (i : Int) (Q : PyData → Prop) : WO (biD .isInt [.int i]) Q = Q (.bool true) := rfl
theorem b_isbi (i : Int) (Q : PyData → Prop) : WO (biD .isBool [.int i]) Q = Q (.bool false) := rfl
theorem p64 (Q : PyData → Prop) : WO (binD .pow (.int 2) (.int 64)) Q = Q (.int 18446744073709551616) := by
  have : binD .pow (.int 2) (.int 64) = some (.int 18446744073709551616) := by simp [binD, powD, pow2ok]
  rw [this]; rfl
theorem p50 (Q : PyData → Prop) : WO (binD .pow (.int 2) (.int 50)) Q = Q (.int 1125899906842624) := by
  have : binD .pow (.int 2) (.int 50) = some (.int 1125899906842624) := by simp [binD, powD, pow2ok]
  rw [this]; rfl
theorem p40 (Q : PyData → Prop) : WO (binD .pow (.int 2) (.int 40)) Q = Q (.int 1099511627776) := by
  have : binD .pow (.int 2) (.int 40) = some (.int 1099511627776) := by simp [binD, powD, pow2ok]
  rw [this]; rfl
theorem p11 (Q : PyData → Prop) : WO (binD .pow (.int 2) (.int 11)) Q = Q (.int 2048) := by
  have : binD .pow (.int 2) (.int 11) = some (.int 2048) := by simp [binD, powD, pow2ok]
  rw [this]; rfl
theorem p11b (Q : PyData → Prop) : WO (binD .pow (.int 10) (.int 11)) Q = Q (.int 100000000000) := by
  have : binD .pow (.int 10) (.int 11) = some (.int 100000000000) := by simp [binD, powD, pow2ok]
  rw [this]; rfl
theorem p12 (Q : PyData → Prop) : WO (binD .pow (.int 10) (.int 12)) Q = Q (.int 1000000000000) := by
  have : binD .pow (.int 10) (.int 12) = some (.int 1000000000000) := by simp [binD, powD, pow2ok]
  rw [this]; rfl
theorem p6 (Q : PyData → Prop) : WO (binD .pow (.int 10) (.int 6)) Q = Q (.int 1000000) := by
  have : binD .pow (.int 10) (.int 6) = some (.int 1000000) := by simp [binD, powD, pow2ok]
  rw [this]; rfl
theorem dk2 : divOk 2 = true := by decide +kernel
theorem dk3 : divOk 3 = true := by decide +kernel
theorem dk4 : divOk 4 = true := by decide +kernel
theorem dk5 : divOk 5 = true := by decide +kernel
theorem dk7 : divOk 7 = true := by decide +kernel
theorem dk8 : divOk 8 = true := by decide +kernel
theorem dk10 : divOk 10 = true := by decide +kernel
theorem dk16 : divOk 16 = true := by decide +kernel
theorem dk32 : divOk 32 = true := by decide +kernel
theorem dk64 : divOk 64 = true := by decide +kernel
theorem dk128 : divOk 128 = true := by decide +kernel
theorem dk1024 : divOk 1024 = true := by decide +kernel
theorem dk2048 : divOk 2048 = true := by decide +kernel
theorem dk42 : divOk 42 = true := by decide +kernel
theorem dk60 : divOk 60 = true := by decide +kernel
theorem dk9 : divOk 9 = true := by decide +kernel
theorem dk6 : divOk 6 = true := by decide +kernel
theorem b_sum (xs : List PyData) (ns : List Int) (h : intsOf xs = some ns) (Q : PyData → Prop) : WO (biD .sum [.list xs]) Q = Q (.int ns.sum) := by
  have : biD .sum [.list xs] = some (.int ns.sum) := by simp [biD, on1, sumB, intsIn, h]
  rw [this]; rfl
theorem intsOf_ints : ∀ ns : List Int, intsOf (ns.map .int) = some ns
  | [] => rfl
  | n :: ns => by simp [intsOf, intsOf_ints ns]
theorem b_sum2 (ns : List Int) (Q : PyData → Prop) : WO (biD .sum [.list (ns.map .int)]) Q = Q (.int ns.sum) := b_sum _ _ (intsOf_ints ns) Q
theorem at_three {x y z : PyData} {r : Int} {Q : PyData → Prop} (h : 0 ≤ r ∧ r < 3) (hx : Q x) (hy : Q y) (hz : Q z) : WO (L2.atI [x, y, z] r) Q := by
  obtain ⟨n, rfl⟩ : ∃ n : Nat, r = n := ⟨r.toNat, by omega⟩
  rw [at_nat]
  match n, h with
  | 0, _ => exact hx
  | 1, _ => exact hy
  | 2, _ => exact hz
  | n + 3, h => omega
theorem at_two {x y : PyData} {r : Int} {Q : PyData → Prop} (h : 0 ≤ r ∧ r < 2) (hx : Q x) (hy : Q y) : WO (L2.atI [x, y] r) Q := by
  obtain ⟨n, rfl⟩ : ∃ n : Nat, r = n := ⟨r.toNat, by omega⟩
  rw [at_nat]
  match n, h with
  | 0, _ => exact hx
  | 1, _ => exact hy
  | n + 2, h => omega
theorem at_four {x y z w : PyData} {r : Int} {Q : PyData → Prop} (h : 0 ≤ r ∧ r < 4) (hx : Q x) (hy : Q y) (hz : Q z) (hw : Q w) : WO (L2.atI [x, y, z, w] r) Q := by
  obtain ⟨n, rfl⟩ : ∃ n : Nat, r = n := ⟨r.toNat, by omega⟩
  rw [at_nat]
  match n, h with
  | 0, _ => exact hx
  | 1, _ => exact hy
  | 2, _ => exact hz
  | 3, _ => exact hw
  | n + 4, h => omega
theorem rd0 (m : Nat) : rangeD 0 m = (List.range m).map fun k : Nat => PyData.int k := by simp [rangeD]
theorem r62_sm {m : Nat} (hm : m ≤ 1000000) : range62 m = true := Nat.ble_eq_true_of_le (show m ≤ 4611686018427387903 by omega)
theorem es_ee (Q : Bool → Prop) : WO (cmpD .eq (.str ("end" : Str)) (.str ("end" : Str))) Q = Q true := by
  have : cmpD .eq (.str ("end" : Str)) (.str ("end" : Str)) = some true := by decide +kernel
  rw [this]; rfl
theorem nes_ee (Q : Bool → Prop) : WO (cmpD .ne (.str ("end" : Str)) (.str ("end" : Str))) Q = Q false := by
  have : cmpD .ne (.str ("end" : Str)) (.str ("end" : Str)) = some false := by decide +kernel
  rw [this]; rfl
theorem es_ep (Q : Bool → Prop) : WO (cmpD .eq (.str ("end" : Str)) (.str ("pick" : Str))) Q = Q false := by
  have : cmpD .eq (.str ("end" : Str)) (.str ("pick" : Str)) = some false := by decide +kernel
  rw [this]; rfl
theorem nes_ep (Q : Bool → Prop) : WO (cmpD .ne (.str ("end" : Str)) (.str ("pick" : Str))) Q = Q true := by
  have : cmpD .ne (.str ("end" : Str)) (.str ("pick" : Str)) = some true := by decide +kernel
  rw [this]; rfl
theorem es_et (Q : Bool → Prop) : WO (cmpD .eq (.str ("end" : Str)) (.str ("throw" : Str))) Q = Q false := by
  have : cmpD .eq (.str ("end" : Str)) (.str ("throw" : Str)) = some false := by decide +kernel
  rw [this]; rfl
theorem nes_et (Q : Bool → Prop) : WO (cmpD .ne (.str ("end" : Str)) (.str ("throw" : Str))) Q = Q true := by
  have : cmpD .ne (.str ("end" : Str)) (.str ("throw" : Str)) = some true := by decide +kernel
  rw [this]; rfl
theorem es_pe (Q : Bool → Prop) : WO (cmpD .eq (.str ("pick" : Str)) (.str ("end" : Str))) Q = Q false := by
  have : cmpD .eq (.str ("pick" : Str)) (.str ("end" : Str)) = some false := by decide +kernel
  rw [this]; rfl
theorem nes_pe (Q : Bool → Prop) : WO (cmpD .ne (.str ("pick" : Str)) (.str ("end" : Str))) Q = Q true := by
  have : cmpD .ne (.str ("pick" : Str)) (.str ("end" : Str)) = some true := by decide +kernel
  rw [this]; rfl
theorem es_pp (Q : Bool → Prop) : WO (cmpD .eq (.str ("pick" : Str)) (.str ("pick" : Str))) Q = Q true := by
  have : cmpD .eq (.str ("pick" : Str)) (.str ("pick" : Str)) = some true := by decide +kernel
  rw [this]; rfl
theorem nes_pp (Q : Bool → Prop) : WO (cmpD .ne (.str ("pick" : Str)) (.str ("pick" : Str))) Q = Q false := by
  have : cmpD .ne (.str ("pick" : Str)) (.str ("pick" : Str)) = some false := by decide +kernel
  rw [this]; rfl
theorem es_pt (Q : Bool → Prop) : WO (cmpD .eq (.str ("pick" : Str)) (.str ("throw" : Str))) Q = Q false := by
  have : cmpD .eq (.str ("pick" : Str)) (.str ("throw" : Str)) = some false := by decide +kernel
  rw [this]; rfl
theorem nes_pt (Q : Bool → Prop) : WO (cmpD .ne (.str ("pick" : Str)) (.str ("throw" : Str))) Q = Q true := by
  have : cmpD .ne (.str ("pick" : Str)) (.str ("throw" : Str)) = some true := by decide +kernel
  rw [this]; rfl
theorem es_te (Q : Bool → Prop) : WO (cmpD .eq (.str ("throw" : Str)) (.str ("end" : Str))) Q = Q false := by
  have : cmpD .eq (.str ("throw" : Str)) (.str ("end" : Str)) = some false := by decide +kernel
  rw [this]; rfl
theorem nes_te (Q : Bool → Prop) : WO (cmpD .ne (.str ("throw" : Str)) (.str ("end" : Str))) Q = Q true := by
  have : cmpD .ne (.str ("throw" : Str)) (.str ("end" : Str)) = some true := by decide +kernel
  rw [this]; rfl
theorem es_tp (Q : Bool → Prop) : WO (cmpD .eq (.str ("throw" : Str)) (.str ("pick" : Str))) Q = Q false := by
  have : cmpD .eq (.str ("throw" : Str)) (.str ("pick" : Str)) = some false := by decide +kernel
  rw [this]; rfl
theorem nes_tp (Q : Bool → Prop) : WO (cmpD .ne (.str ("throw" : Str)) (.str ("pick" : Str))) Q = Q true := by
  have : cmpD .ne (.str ("throw" : Str)) (.str ("pick" : Str)) = some true := by decide +kernel
  rw [this]; rfl
theorem es_tt (Q : Bool → Prop) : WO (cmpD .eq (.str ("throw" : Str)) (.str ("throw" : Str))) Q = Q true := by
  have : cmpD .eq (.str ("throw" : Str)) (.str ("throw" : Str)) = some true := by decide +kernel
  rw [this]; rfl
theorem nes_tt (Q : Bool → Prop) : WO (cmpD .ne (.str ("throw" : Str)) (.str ("throw" : Str))) Q = Q false := by
  have : cmpD .ne (.str ("throw" : Str)) (.str ("throw" : Str)) = some false := by decide +kernel
  rw [this]; rfl
theorem dk0_int (i : Int) (Q : NK → Prop) : WO (dKey [] (.int i)) Q = Q (.num i) := rfl
theorem dk0_str (i : Str) (Q : NK → Prop) : WO (dKey [] (.str i)) Q = Q (.text i) := rfl
theorem lp_put (ds : List PyData) (i : Nat) (h : i < ds.length) (x : PyData) (Q : List PyData → Prop) : WO (listPut ds (.int i) x) Q = Q (ds.set i x) := by
  have : listPut ds (.int (i : Int)) x = some (ds.set i x) := by simp [listPut, L2.ixN, h]
  rw [this]; rfl
theorem in_list (x : PyData) (ds : List PyData) (h1 : SeqAt.shaped x = true) (h2 : SeqAt.shaped (.list ds) = true) (Q : Bool → Prop) : WO (cmpD .isIn x (.list ds)) Q = Q (ds.any fun z => PyData.eqv z x) := by
  have : cmpD .isIn x (.list ds) = some (ds.any fun z => PyData.eqv z x) := by simp [cmpD, inD, h1, h2]
  rw [this]; rfl
theorem in_tup (x : PyData) (ds : List PyData) (h1 : SeqAt.shaped x = true) (h2 : SeqAt.shaped (.tuple ds) = true) (Q : Bool → Prop) : WO (cmpD .isIn x (.tuple ds)) Q = Q (ds.any fun z => PyData.eqv z x) := by
  have : cmpD .isIn x (.tuple ds) = some (ds.any fun z => PyData.eqv z x) := by simp [cmpD, inD, h1, h2]
  rw [this]; rfl
theorem nin_of {x y : PyData} {Q : Bool → Prop} (h : WO (cmpD .isIn x y) fun t => Q (!t)) : WO (cmpD .notIn x y) Q := by
  show WO ((inD x y).map _) Q
  rw [o_map]
  exact h
theorem nl_none : isNoneL (.lit .none) = true := rfl
theorem nl_int (i : Int) : isNoneL (.lit (.int i)) = false := rfl
theorem nl_var (i : Nat) : isNoneL (.var i) = false := rfl
theorem nl_bin (o : BOp) (a b : CE) : isNoneL (.bin o a b) = false := rfl
theorem nl_neg (a : CE) : isNoneL (.neg a) = false := rfl
theorem nl_idx (a b : CE) : isNoneL (.idx a b) = false := rfl
theorem nl_bi (a : Bi) (b : CEs) : isNoneL (.bi a b) = false := rfl
theorem pt_t (v : Option PyData) (Q : Option Int → Prop) : WO (partV true v) Q = Q none := rfl
theorem pt_f (v : Option PyData) (Q : Option Int → Prop) : WO (partV false v) Q = WO v fun x => WO (intP x) fun i => Q (some i) := by
  unfold partV
  simp only [Bool.false_eq_true, if_false, o_map, o_bind]
theorem sl_l (xs : List PyData) (l h : Option Int) (Q : PyData → Prop) : WO (sliceD (.list xs) l h) Q = Q (.list (cutE xs l h)) := rfl
theorem sl_t (xs : List PyData) (l h : Option Int) (Q : PyData → Prop) : WO (sliceD (.tuple xs) l h) Q = Q (.tuple (cutE xs l h)) := rfl
theorem cut_to {α : Type} (xs : List α) (n : Nat) : cutE xs none (some (n : Int)) = xs.take n := by
  have h0 : HT.sIx xs.length 0 none = 0 := rfl
  have h1 : HT.sIx xs.length xs.length (some (n : Int)) = min n xs.length := by
    unfold HT.sIx
    simp only
    split
    · omega
    · simp
  unfold cutE
  rw [h0, h1, List.drop_zero, Nat.sub_zero]
  by_cases h : n ≤ xs.length
  · rw [Nat.min_eq_left h]
  · rw [Nat.min_eq_right (by omega), List.take_of_length_le (Nat.le_refl _), List.take_of_length_le (by omega)]
theorem cut_from {α : Type} (xs : List α) (n : Nat) : cutE xs (some (n : Int)) none = xs.drop n := by
  have h0 : HT.sIx xs.length xs.length none = xs.length := rfl
  have h1 : HT.sIx xs.length 0 (some (n : Int)) = min n xs.length := by
    unfold HT.sIx
    simp only
    split
    · omega
    · simp
  unfold cutE
  rw [h0, h1]
  by_cases h : n ≤ xs.length
  · rw [Nat.min_eq_left h, List.take_of_length_le (by simp)]
  · rw [Nat.min_eq_right (by omega), Nat.sub_self, List.take_zero, List.drop_eq_nil_of_le (by omega)]
theorem en_map {β : Type} (e : β → PyData) (ys : List β) : enumD (ys.map e) = ys.zipIdx.map fun p => .tuple [.int (p.2 : Nat), e p.1] := by
  simp [enumD, List.zipIdx_map, Function.comp_def]
theorem ix_m (ds : List PyData) (x : PyData) (h1 : SeqAt.shaped x = true) (h2 : SeqAt.shaped (.list ds) = true) (Q : PyData → Prop) : WO (mtD .index (.list ds) [x]) Q = WO (indexD ds x) fun i => Q (.int (i : Nat)) := by
  have : mtD .index (.list ds) [x] = (indexD ds x).map fun i => .int (i : Nat) := by simp [mtD, indexM, h1, h2]
  rw [this, o_map]
theorem mul_li (xs : List PyData) (k : Int) (Q : PyData → Prop) : WO (binD .mul (.list xs) (.int k)) Q = ((small (xs.length * k.toNat) && decide (0 ≤ k) && decide (k ≤ 1000000)) = true ∧ Q (.list (List.replicate k.toNat xs).flatten)) := o_ite _ _ _
theorem b_isbl (xs : List PyData) (Q : PyData → Prop) : WO (biD .isBool [.list xs]) Q = Q (.bool false) := rfl
theorem b_isll (xs : Int) (Q : PyData → Prop) : WO (biD .isList [.int xs]) Q = Q (.bool false) := rfl
theorem tyD_dic (kvs : List (NK × PyData)) : tyD (dictOf kvs) = .dict := rfl
/-! ### loops -/
section
variable {Φ : Fns} (E : Exc → Env → Prop)
def Lk {β : Type} (I : List β → Env → Prop) (xs : List β) (Q : Fl → Env → Prop) (f : Fl) (ρ : Env) : Prop := match f with
  | .nx => I xs ρ
  | .ct => I xs ρ
  | .bk => Q .nx ρ
  | .rt x => Q (.rt x) ρ
section
variable {β : Type} (I : List β → Env → Prop) (xs : List β) (Q : Fl → Env → Prop) (ρ : Env)
theorem l_nx : Lk I xs Q .nx ρ = I xs ρ := rfl
theorem l_ct : Lk I xs Q .ct ρ = I xs ρ := rfl
theorem l_bk : Lk I xs Q .bk ρ = Q .nx ρ := rfl
theorem l_rt (x : PyData) : Lk I xs Q (.rt x) ρ = Q (.rt x) ρ := rfl
end
variable {E} in
theorem w_frl {β : Type} {tg : Tg} {b : CSs} {Q : Fl → Env → Prop} (e : β → PyData) (I : List β → Env → Prop) (hs : ∀ x xs ρ, I (x :: xs) ρ → WO (asg tg (e x) ρ) fun ρ1 => W (exs Φ b ρ1) E (Lk I xs Q)) (hz : ∀ ρ, I [] ρ → Q .nx ρ) : ∀ (xs : List β) (ρ : Env), I xs ρ → W (frl Φ tg b (xs.map e) ρ) E Q
  | [], ρ, h => hz ρ h
  | x :: xs, ρ, h => by
    have h1 := hs x xs ρ h
    rw [List.map_cons]
    unfold frl forL
    cases h2 : asg tg (e x) ρ with
    | none => rw [h2] at h1; exact h1.elim
    | some ρ1 =>
      rw [h2] at h1
      simp only [w_bind]
      refine W.imp (h1 : W (exs Φ b ρ1) E (Lk I xs Q)) (fun f ρ' hf => ?_) fun _ _ h => h
      cases f with
      | nx => exact w_frl e I hs hz xs ρ' hf
      | ct => exact w_frl e I hs hz xs ρ' hf
      | bk => exact hf
      | rt x => exact hf
variable {E} in
/-- .. told with the number of the item -/
theorem w_each {β : Type} {tg : Tg} {b : CSs} {Q : Fl → Env → Prop} {ρ : Env} (xs : List β) (e : β → PyData) (I : Nat → Env → Prop) (h0 : I 0 ρ) (hs : ∀ k x ρ, xs[k]? = some x → I k ρ → WO (asg tg (e x) ρ) fun ρ1 => W (exs Φ b ρ1) E (Lk (fun (_ : List Unit) ρ => I (k + 1) ρ) [] Q)) (hz : ∀ ρ, I xs.length ρ → Q .nx ρ) : W (frl Φ tg b (xs.map e) ρ) E Q := by
  refine w_frl e (fun l ρ => ∃ k, I k ρ ∧ k + l.length = xs.length ∧ xs.drop k = l) (fun x l ρ ⟨k, hi, hk, hd⟩ => ?_) (fun ρ ⟨k, hi, hk, hd⟩ => hz ρ (by simp at hk; rw [← hk]; exact hi)) xs ρ ⟨0, h0, by simp, rfl⟩
  have hx : xs[k]? = some x := by
    have : (xs.drop k)[0]? = some x := by rw [hd]; rfl
    simpa using this
  have h := hs k x ρ hx hi
  cases h2 : asg tg (e x) ρ with
  | none => rw [h2] at h; exact h.elim
  | some ρ1 =>
    rw [h2] at h
    rw [o_some]
    refine W.imp (h : W (exs Φ b ρ1) E _) (fun f ρ' hf => ?_) fun _ _ h => h
    have hd2 : xs.drop (k + 1) = l := by
      have : (xs.drop k).drop 1 = l := by rw [hd]; rfl
      rwa [List.drop_drop] at this
    cases f with
    | nx => exact ⟨k + 1, hf, by simp at hk; omega, hd2⟩
    | ct => exact ⟨k + 1, hf, by simp at hk; omega, hd2⟩
    | bk => exact hf
    | rt x => exact hf
variable {E} in
theorem w_range {tg : Tg} {b : CSs} {Q : Fl → Env → Prop} {ρ : Env} {i : Int} (m : Nat) (hm : i = m) (I : Nat → Env → Prop) (h0 : I 0 ρ) (hs : ∀ k ρ, k < m → I k ρ → WO (asg tg (.int k) ρ) fun ρ1 => W (exs Φ b ρ1) E (Lk (fun (_ : List Unit) ρ => I (k + 1) ρ) [] Q)) (hz : ∀ ρ, I m ρ → Q .nx ρ) : W (frl Φ tg b (rangeD 0 i) ρ) E Q := by
  rw [hm, rd0]
  refine w_each (List.range m) (fun k : Nat => PyData.int k) I h0 (fun k x ρ hx hi => ?_) (fun ρ h => hz ρ (by simpa using h))
  have hk : k < m := by
    have := (List.getElem?_eq_some_iff.mp hx).1
    simpa using this
  rw [List.getElem?_range hk] at hx
  cases hx
  exact hs k ρ hk hi
variable {E} in
theorem w_whl {c : CE} {b : CSs} {Q : Fl → Env → Prop} (I : Nat → Env → Prop) (hs : ∀ n ρ, I n ρ → W (ev Φ c ρ) E fun v ρ => W (truE v ρ) E fun t ρ => WI t (W (exs Φ b ρ) E (Lk (fun (_ : List Unit) ρ => ∃ m, m < n ∧ I m ρ) [] Q)) (Q .nx ρ)) : ∀ (n k : Nat) (ρ : Env), n < k → I n ρ → W (whl Φ c b k ρ) E Q
  | n, 0, ρ, h, _ => absurd h (Nat.not_lt_zero _)
  | n, k + 1, ρ, h, hi => by
    unfold whl whileL
    simp only [w_bind]
    refine W.imp (hs n ρ hi) (fun v ρ h1 => W.imp h1 (fun t ρ h2 => ?_) fun _ _ h => h) fun _ _ h => h
    cases t with
    | false => exact h2
    | true =>
      simp only [if_true, w_bind]
      refine W.imp (h2 : W (exs Φ b ρ) E _) (fun f ρ h3 => ?_) fun _ _ h => h
      cases f with
      | nx => obtain ⟨m, hm, hi⟩ := h3; exact w_whl I hs m k ρ (by omega) hi
      | ct => obtain ⟨m, hm, hi⟩ := h3; exact w_whl I hs m k ρ (by omega) hi
      | bk => exact h3
      | rt x => exact h3
/-- like items: a relation item by item -/
inductive All2 {α β : Type} (P : α → β → Prop) : List α → List β → Prop where
  | nil : All2 P [] []
  | cons {a : α} {b : β} {as : List α} {bs : List β} : P a b → All2 P as bs → All2 P (a :: as) (b :: bs)
theorem All2.length {α β : Type} {P : α → β → Prop} {as : List α} {bs : List β} (h : All2 P as bs) : as.length = bs.length := by
  induction h with
  | nil => rfl
  | cons _ _ ih => simp [ih]
theorem All2.get {α β : Type} {P : α → β → Prop} {as : List α} {bs : List β} (h : All2 P as bs) : ∀ (i : Nat) (a : α), as[i]? = some a → ∃ b, bs[i]? = some b ∧ P a b := by
  induction h with
  | nil => intro i a h; simp at h
  | cons h1 _ ih =>
    intro i a h
    cases i with
    | zero => simp at h; subst h; exact ⟨_, rfl, h1⟩
    | succ i => simpa using ih i a (by simpa using h)
theorem All2.map_eq {α β : Type} {as : List α} {bs : List β} {g : α → β} (h : All2 (fun a b => b = g a) as bs) : bs = as.map g := by
  induction h with
  | nil => rfl
  | cons h1 _ ih => rw [h1, ih]; rfl
/-- items that are codes -/
theorem All2.codes {α γ : Type} {P : α → γ → Prop} {g : γ → PyData} {as : List α} {bs : List PyData} (h : All2 (fun a b => ∃ z, b = g z ∧ P a z) as bs) : ∃ zs : List γ, bs = zs.map g ∧ All2 P as zs := by
  induction h with
  | nil => exact ⟨[], rfl, .nil⟩
  | cons h1 _ ih =>
    obtain ⟨z, rfl, hz⟩ := h1
    obtain ⟨zs, rfl, h2⟩ := ih
    exact ⟨z :: zs, rfl, .cons hz h2⟩
theorem All2.right {α β : Type} {P : α → β → Prop} {as : List α} {bs : List β} (h : All2 P as bs) : ∀ b ∈ bs, ∃ a ∈ as, P a b := by
  induction h with
  | nil => intro b h; simp at h
  | cons h1 _ ih =>
    intro b hb
    rcases List.mem_cons.mp hb with rfl | hb
    · exact ⟨_, List.mem_cons_self, h1⟩
    · obtain ⟨a, ha, h2⟩ := ih b hb
      exact ⟨a, List.mem_cons_of_mem _ ha, h2⟩
theorem comp_rel {β : Type} {elt cond : CE} {tg : Tg} {ρ₀ : Env} {vs : List Nat} {ρw : Env} (e : β → PyData) (p : β → Bool) (P : β → PyData → Prop) : ∀ (ys : List β) (acc : List PyData) (ρ : Env), wipeE ρ vs = ρw →
    (∀ x ∈ ys, WO (asg tg (e x) ρw) fun ρ1 => W (ev Φ cond ρ1) (fun _ _ => False) fun c ρ2 => W (truE c ρ2) (fun _ _ => False) fun t ρ3 => (t = p x ∧ wipeE ρ3 vs = ρw ∧ (t = true → W (ev Φ elt ρ3) (fun _ _ => False) fun v ρ4 => W (freeze v ρ4) (fun _ _ => False) fun y ρ5 => (P x y ∧ wipeE ρ5 vs = ρw)))) → acc.length + ys.length ≤ most →
    ∃ zs ρ', compL (fun ρ => ev Φ elt ρ) (fun ρ => ev Φ cond ρ) tg ρ₀ vs (ys.map e) acc ρ = .ok (acc ++ zs) ρ' ∧ wipeE ρ' vs = ρw ∧ All2 P (ys.filter p) zs
  | [], acc, ρ, hw, _, _ => ⟨[], ρ, by simp [compL], hw, .nil⟩
  | x :: xs, acc, ρ, hw, h, hl => by
    have hx : ∀ y ∈ xs, _ := fun y hy => h y (List.mem_cons_of_mem _ hy)
    have h1 := h x List.mem_cons_self
    rw [List.map_cons]
    unfold compL
    rw [hw]
    cases h2 : asg tg (e x) ρw with
    | none => rw [h2] at h1; exact h1.elim
    | some ρ1 =>
      rw [h2] at h1
      obtain ⟨c, ρ2, e2, h3⟩ := W_get (h1 : W (ev Φ cond ρ1) _ _)
      obtain ⟨t, ρ3, e3, ht, hw3, h4⟩ := W_get h3
      simp only [e2, e3]
      cases hp : p x with
      | false =>
        rw [hp] at ht
        subst ht
        simp only
        obtain ⟨zs, ρ', e1, e2, e3⟩ := comp_rel e p P xs acc ρ3 hw3 hx (by simp at hl; omega)
        refine ⟨zs, ρ', e1, e2, ?_⟩
        rw [List.filter_cons_of_neg (by simp [hp])]
        exact e3
      | true =>
        rw [hp] at ht
        subst ht
        simp only
        obtain ⟨v, ρ4, e4, h5⟩ := W_get (h4 rfl)
        obtain ⟨y, ρ5, e5, hP, hw5⟩ := W_get h5
        simp only [e4, e5]
        have hs : small (acc.length + 1) = true := by
          unfold small
          simp at hl
          exact decide_eq_true (by omega)
        rw [if_pos hs]
        obtain ⟨zs, ρ', e1, e2, e3⟩ := comp_rel e p P xs (acc ++ [y]) ρ5 hw5 hx (by simp at hl ⊢; omega)
        refine ⟨y :: zs, ρ', by rw [e1]; simp, e2, ?_⟩
        rw [List.filter_cons_of_pos hp]
        exact .cons hP e3
variable {E} in
/-- a comprehension by a relation -/
theorem w_cw {β : Type} {elt cond : CE} {tg : Tg} {vs : List Nat} {xs : List PyData} {ρ : Env} {Q : SV → Env → Prop} (ys : List β) (e : β → PyData) (p : β → Bool) (P : β → PyData → Prop) (hx : xs = ys.map e) (ho : okWipe ρ vs = true) (hl : ys.length ≤ most)
    (h : ∀ x ∈ ys, WO (asg tg (e x) (wipeE ρ vs)) fun ρ1 => W (ev Φ cond ρ1) (fun _ _ => False) fun c ρ2 => W (truE c ρ2) (fun _ _ => False) fun t ρ3 => (t = p x ∧ wipeE ρ3 vs = wipeE ρ vs ∧ (t = true → W (ev Φ elt ρ3) (fun _ _ => False) fun v ρ4 => W (freeze v ρ4) (fun _ _ => False) fun y ρ5 => (P x y ∧ wipeE ρ5 vs = wipeE ρ vs))))
    (hq : ∀ zs, All2 P (ys.filter p) zs → Q (.lst zs) ρ) : CW Φ E elt cond tg vs xs ρ Q := by
  subst hx
  obtain ⟨zs, ρ', e1, e2, e3⟩ := comp_rel (Φ := Φ) (elt := elt) (cond := cond) (tg := tg) (ρ₀ := ρ) e p P ys [] ρ rfl h (by simpa using hl)
  refine ⟨ho, ?_⟩
  rw [e1, w_ok, back_eq e2]
  exact hq zs e3
variable {E} in
/-- .. without a condition -/
theorem w_cw1 {β : Type} {elt : CE} {tg : Tg} {vs : List Nat} {xs : List PyData} {ρ : Env} {Q : SV → Env → Prop} (ys : List β) (e : β → PyData) (P : β → PyData → Prop) (hx : xs = ys.map e) (ho : okWipe ρ vs = true) (hl : ys.length ≤ most)
    (h : ∀ x ∈ ys, WO (asg tg (e x) (wipeE ρ vs)) fun ρ3 => (wipeE ρ3 vs = wipeE ρ vs ∧ W (ev Φ elt ρ3) (fun _ _ => False) fun v ρ4 => W (freeze v ρ4) (fun _ _ => False) fun y ρ5 => (P x y ∧ wipeE ρ5 vs = wipeE ρ vs)))
    (hq : ∀ zs, All2 P ys zs → Q (.lst zs) ρ) : CW Φ E elt (.lit (.bool true)) tg vs xs ρ Q := by
  refine w_cw ys e (fun _ => true) P hx ho hl (fun x hx => ?_) fun zs hz => hq zs (by rwa [List.filter_eq_self.mpr (fun _ _ => rfl)] at hz)
  have h1 := h x hx
  cases h2 : asg tg (e x) (wipeE ρ vs) with
  | none => rw [h2] at h1; exact h1.elim
  | some ρ1 =>
    rw [h2] at h1
    rw [o_some, w_lit, w_tru, o_viewd, t_bool]
    exact ⟨rfl, h1.1, fun _ => h1.2⟩
end
/-- a def's run -/
theorem w_run {Φ : Fns} {n : Nat} {b : CSs} {xs : List PyData} {E : Exc → Prop} {Q : PyData → Prop} (h : W (exs Φ b (startE n xs)) (fun x _ => E x) fun f _ => match f with
    | .rt x => Q x
    | .nx => Q .none
    | _ => False) : R (run Φ ⟨n, b⟩ xs) E Q := by
  unfold run
  simp only
  revert h
  generalize exs Φ b (startE n xs) = m
  intro h
  cases m with
  | stuck => exact h.elim
  | exc x ρ => exact h
  | ok f ρ => cases f <;> first | exact h | exact h.elim
/-! ### tables -/
def Tbl (l : List Fn) (Φ : Fns) : Prop := ∀ j, j < l.length → ∀ xs, Φ j xs = fns l j xs
theorem Tbl.self (l : List Fn) : Tbl l (fns l) := fun _ _ _ => rfl
theorem Tbl.tl {f : Fn} {l : List Fn} {Φ : Fns} (h : Tbl (f :: l) Φ) : Tbl l Φ := fun j hj xs => by
  rw [h j (Nat.lt_succ_of_lt hj) xs]
  show (if j = l.length then _ else fns l j xs) = _
  rw [if_neg (Nat.ne_of_lt hj)]
theorem Tbl.dr {l : List Fn} {Φ : Fns} : ∀ n, Tbl l Φ → Tbl (l.drop n) Φ
  | 0, h => h
  | n + 1, h => by
    cases l with
    | nil => simpa using h
    | cons f l => exact Tbl.dr n h.tl
theorem Tbl.top {f : Fn} {l : List Fn} {Φ : Fns} (h : Tbl (f :: l) Φ) {k : Nat} (hk : k = l.length) (xs : List PyData) : Φ k xs = run (fns l) f xs := by
  rw [h k (by rw [hk]; exact Nat.lt_succ_self _) xs]
  show (if k = l.length then _ else fns l k xs) = _
  rw [if_pos hk]
theorem Tbl.r0 {f : Fn} {l : List Fn} {Φ : Fns} (h : Tbl (f :: l) Φ) {k : Nat} (hk : k = l.length) {xs : List PyData} {Q : PyData → Prop} (g : R0 (run (fns l) f xs) Q) : R0 (Φ k xs) Q := by rw [h.top hk]; exact g
end VI
set_option Elab.async false
set_option linter.all false
set_option autoImplicit false
set_option maxRecDepth 20000
/-! Two boards in one; what the laws share. -/
namespace VI
namespace AL
open PySem
/-! ### two boards in one -/
def OkO (bs : List Pl) : Prop := ∀ p ∈ bs, OkP bs.length p
theorem okp_shift {N M : Nat} {q : Pl} (h : OkP M q) : OkP (N + M) (q.mapG fun g => g + N) := by
  cases q with
  | fin v => trivial
  | pick r gs =>
    refine ⟨by simpa [Pl.mapG] using h.1, fun g hg => ?_⟩
    obtain ⟨g', hg', rfl⟩ := List.mem_map.mp hg
    have := h.2 g' hg'
    omega
  | throw v ws =>
    refine ⟨fun p hp => ?_, by simpa [Pl.mapG] using h.2.1, by simpa [Pl.mapG] using h.2.2⟩
    obtain ⟨p', hp', rfl⟩ := List.mem_map.mp hp
    have := h.1 p' hp'
    exact ⟨this.1, this.2.1, by simp; omega, by simp; omega⟩
theorem okp_mono {N M : Nat} (hNM : N ≤ M) {q : Pl} (h : OkP N q) : OkP M q := by
  cases q with
  | fin v => trivial
  | pick r gs => exact ⟨h.1, fun g hg => by have := h.2 g hg; omega⟩
  | throw v ws => exact ⟨fun p hp => by have := h.1 p hp; exact ⟨this.1, this.2.1, this.2.2.1, by omega⟩, h.2.1, h.2.2⟩
theorem okb_both {one other : List Pl} (h1 : OkO one) (h2 : OkO other) (hl : one.length + other.length ≤ 1000) : OkB (both2 one other) := by
  refine ⟨by simpa [both2] using hl, fun p hp => ?_⟩
  have e : (both2 one other).length = one.length + other.length := by simp [both2]
  rw [e]
  rcases List.mem_append.mp hp with hp | hp
  · exact okp_mono (by omega) (h1 p hp)
  · obtain ⟨q, hq, rfl⟩ := List.mem_map.mp hp
    rw [shift_map]
    exact okp_shift (h2 q hq)
theorem both_l {one other : List Pl} {i : Nat} {p : Pl} (h : one[i]? = some p) : (both2 one other)[i]? = some p := by
  have : i < one.length := (List.getElem?_eq_some_iff.mp h).1
  unfold both2
  rw [List.getElem?_append_left this, h]
theorem both_r {one other : List Pl} {j : Nat} {q : Pl} (h : other[j]? = some q) : (both2 one other)[one.length + j]? = some (q.mapG fun g => g + one.length) := by
  unfold both2
  rw [List.getElem?_append_right (by omega), Nat.add_sub_cancel_left, List.getElem?_map, h, ← shift_map]
  rfl
theorem okp_of {bs : List Pl} (h : OkO bs) {i : Nat} {p : Pl} (hp : bs[i]? = some p) : ∀ g ∈ p.goals, 0 ≤ g ∧ g < bs.length := okp_goals (h p (List.mem_of_getElem? hp))
theorem hom_in {one other : List Pl} (h1 : OkO one) : Hom one (both2 one other) id := fun i p hp => by
  rw [id, both_l hp, map_congr (f := fun g => ((id g.toNat : Nat) : Int)) (h := fun g => g) (fun g hg => by have := okp_of h1 hp g hg; simp; omega), map_id]
theorem hom_inr {one other : List Pl} (h2 : OkO other) : Hom other (both2 one other) (fun j => one.length + j) := fun i p hp => by
  rw [both_r hp]
  congr 1
  refine map_congr fun g hg => ?_
  have := okp_of h2 hp g hg
  simp
  omega
def fold (n x : Nat) : Nat := if x < n then x else x - n
theorem hom_fold {one : List Pl} (h1 : OkO one) : Hom (both2 one one) one (fold one.length) := fun i p hp => by
  by_cases hi : i < one.length
  · have hp : one[i]? = some p := by
      unfold both2 at hp
      rwa [List.getElem?_append_left hi] at hp
    have e : fold one.length i = i := by simp [fold, hi]
    rw [e, hp, map_congr (f := fun g => ((fold one.length g.toNat : Nat) : Int)) (h := fun g => g) (fun g hg => by
      have := okp_of h1 hp g hg
      simp only [fold]
      rw [if_pos (by omega)]
      omega), map_id]
  · obtain ⟨j, rfl⟩ : ∃ j, i = one.length + j := ⟨i - one.length, by omega⟩
    have hj : j < one.length := by
      have := (List.getElem?_eq_some_iff.mp hp).1
      simp [both2] at this
      omega
    rw [both_r (List.getElem?_eq_getElem hj)] at hp
    cases hp
    have e : fold one.length (one.length + j) = j := by unfold fold; rw [if_neg (by omega)]; omega
    rw [e, List.getElem?_eq_getElem hj, map_map, map_congr (f := fun g => ((fold one.length (g + one.length).toNat : Nat) : Int)) (h := fun g => g) (fun g hg => by
      have := okp_of h1 (List.getElem?_eq_getElem hj) g hg
      simp only [fold]
      rw [if_neg (by omega)]
      omega), map_id]
theorem okb_one {one : List Pl} (h : OkO one) (hl : one.length ≤ 1000) : OkB one := ⟨hl, h⟩
/-- a place of the one and another one of it, seen in the board of both -/
theorem mine_iff {one other : List Pl} (h1 : OkO one) (h2 : OkO other) (hl : one.length + one.length ≤ 1000) (hl2 : one.length + other.length ≤ 1000) {k g : Nat} (hk : k < one.length) (hg : g < one.length) :
    alk (both2 one one) k (one.length + g : Nat) = decide (cl (fin (both2 one other)) k = cl (fin (both2 one other)) g) := by
  have a := hom_iff (okb_both h1 h1 hl) (okb_one h1 (by omega)) (hom_fold h1) (i := k) (j := one.length + g) (by simp [both2]; omega) (by simp [both2]; omega)
  have b := hom_iff (okb_one h1 (by omega)) (okb_both h1 h2 hl2) (hom_in h1) hk hg
  have e1 : fold one.length k = k := by simp [fold, hk]
  have e2 : fold one.length (one.length + g) = g := by unfold fold; rw [if_neg (by omega)]; omega
  rw [e1, e2] at a
  unfold alk
  rw [cl_nat, cl_nat, cl_nat, cl_nat, decide_eq_decide]
  exact a.trans b
theorem enc_fin (v : Int × Int) : (Pl.fin v).enc = .tuple [.str "end", pairD v] := rfl
theorem enc_pick (q : Int) (gs : List Int) : (Pl.pick q gs).enc = .tuple [.str "pick", .int q, .list (gs.map .int)] := rfl
theorem enc_throw (v : Int × Int) (ws : List (Int × Int)) : (Pl.throw v ws).enc = .tuple [.str "throw", pairD v, .list (ws.map pairD)] := rfl
theorem canPl : ∀ ps : List (Int × Int), PyData.canLayAll0 (ps.map pairD) = true
  | [] => rfl
  | p :: ps => by
    rw [List.map_cons, PyData.canLayAll0, canPl ps]
    simp [pairD, PyData.canLay0, PyData.canLayAll0]
theorem canIs : ∀ ps : List Int, PyData.canLayAll0 (ps.map .int) = true
  | [] => rfl
  | p :: ps => by
    rw [List.map_cons, PyData.canLayAll0, canIs ps]
    simp [PyData.canLay0]
theorem depPl : ∀ ps : List (Int × Int), PyData.depthAll (ps.map pairD) ≤ 4
  | [] => by simp [PyData.depthAll]
  | p :: ps => by
    have := depPl ps
    rw [List.map_cons, PyData.depthAll]
    simp [pairD, PyData.depth, PyData.depthAll]
    omega
theorem depIs : ∀ ps : List Int, PyData.depthAll (ps.map .int) ≤ 4
  | [] => by simp [PyData.depthAll]
  | p :: ps => by
    have := depIs ps
    rw [List.map_cons, PyData.depthAll]
    simp [PyData.depth]
    omega
theorem canPlc (p : Pl) : p.enc.canLay0 = true ∧ p.enc.depth ≤ 8 := by
  have e1 : PyData.strOk ("end" : Str) = true := by decide +kernel
  have e2 : PyData.strOk ("pick" : Str) = true := by decide +kernel
  have e3 : PyData.strOk ("throw" : Str) = true := by decide +kernel
  cases p with
  | fin v => exact ⟨by simp [Pl.enc, pairD, PyData.canLay0, PyData.canLayAll0, e1], by simp [Pl.enc, pairD, PyData.depth, PyData.depthAll]⟩
  | pick q gs =>
    have := depIs gs
    exact ⟨by simp [Pl.enc, PyData.canLay0, PyData.canLayAll0, e2, canIs], by simp [Pl.enc, PyData.depth, PyData.depthAll]; omega⟩
  | throw v ws =>
    have := depPl ws
    exact ⟨by simp [Pl.enc, pairD, PyData.canLay0, PyData.canLayAll0, e3, canPl], by simp [Pl.enc, pairD, PyData.depth, PyData.depthAll]; omega⟩
abbrev bd (bs : List Pl) : PyData := .list (bs.map Pl.enc)
theorem canBd : ∀ bs : List Pl, PyData.canLayAll0 (bs.map Pl.enc) = true ∧ PyData.depthAll (bs.map Pl.enc) ≤ 8
  | [] => ⟨rfl, by simp [PyData.depthAll]⟩
  | b :: bs => by
    obtain ⟨h1, h2⟩ := canBd bs
    obtain ⟨h3, h4⟩ := canPlc b
    rw [List.map_cons, PyData.canLayAll0, PyData.depthAll, h1, h3]
    exact ⟨rfl, by omega⟩
theorem eq_self' {x : PyData} (h : SeqAt.shaped x = true) (Q : Bool → Prop) : WO (cmpD .eq x x) Q = Q true := by
  have : cmpD .eq x x = some true := by simp [cmpD, eqD, h, SeqAt.eqv_refl x (SeqAt.canLay_of_shaped h)]
  rw [this]; rfl
theorem shBB (a b : List Pl) : SeqAt.shaped (.list [bd a, bd b]) = true := by
  have h1 := canBd a
  have h2 := canBd b
  have d1 := h1.2
  have d2 := h2.2
  unfold SeqAt.shaped
  rw [Bool.and_eq_true]
  refine ⟨by simp [PyData.canLay0, PyData.canLayAll0, h1.1, h2.1], decide_eq_true ?_⟩
  simp only [PyData.depth, PyData.depthAll]
  omega
theorem shIs (ns : List Int) : SeqAt.shaped (.list (ns.map .int)) = true := by
  unfold SeqAt.shaped
  have := depIs ns
  rw [Bool.and_eq_true]
  refine ⟨by simp [PyData.canLay0, canIs], decide_eq_true ?_⟩
  simp only [PyData.depth]
  omega
theorem in_ints (c : Int) (ns : List Int) (Q : Bool → Prop) : WO (cmpD .isIn (.int c) (.list (ns.map .int))) Q = Q (decide (c ∈ ns)) := by
  rw [in_list _ _ rfl (shIs ns)]
  congr 1
  rw [Bool.eq_iff_iff, List.any_eq_true, decide_eq_true_eq]
  constructor
  · rintro ⟨x, hx, h⟩
    obtain ⟨n, hn, rfl⟩ := List.mem_map.mp hx
    rw [eqv_int] at h
    have : n = c := by simpa using h
    rw [← this]
    exact hn
  · intro h
    exact ⟨.int c, List.mem_map.mpr ⟨c, h, rfl⟩, by rw [eqv_int]; simp⟩
theorem indexD_ints (c : Int) : ∀ ns : List Int, c ∈ ns → indexD (ns.map .int) (.int c) = some (ns.idxOf c)
  | [], h => by simp at h
  | n :: ns, h => by
    rw [List.map_cons, indexD, eqv_int]
    by_cases e : n = c
    · subst e; simp
    · have hc : c ∈ ns := by
        rcases List.mem_cons.mp h with z | z
        · exact absurd z.symm e
        · exact z
      have : (n == c) = false := by simpa using e
      rw [this, indexD_ints c ns hc]
      simp [List.idxOf_cons, this]
theorem ix_ints (c : Int) (ns : List Int) (h : c ∈ ns) (Q : PyData → Prop) : WO (mtD .index (.list (ns.map .int)) [.int c]) Q = Q (.int (ns.idxOf c : Nat)) := by
  rw [ix_m _ _ rfl (shIs ns), indexD_ints c ns h, o_some]
theorem tupsOf_map : ∀ nss : List (List Int), tupsOf (nss.map tupI) = some nss
  | [] => rfl
  | t :: nss => by
    rw [List.map_cons, tupI, tupsOf, intsOf_ints, tupsOf_map nss]
theorem b_sortT {nss : List (List Int)} (h : tupsOk nss = true) (ne : nss ≠ []) (Q : PyData → Prop) : WO (biD .sorted [.list (nss.map tupI)]) Q = Q (.list ((sortT nss).map tupI)) := by
  have : biD .sorted [.list (nss.map tupI)] = some (.list ((sortT nss).map tupI)) := by
    have e : intsOf (nss.map tupI) = none := by
      cases nss with
      | nil => exact absurd rfl ne
      | cons t r => simp [tupI, intsOf]
    simp only [biD, on1, sortedB, e, tupsOf_map, Option.bind_some, h, if_true]
  rw [this]; rfl
theorem tupsOk_by {nss : List (List Int)} {d : Nat} (hd : 1 ≤ d) (hl : nss.length < 64) (h : ∀ t ∈ nss, t.length = d ∧ ∀ i ∈ t, 0 ≤ i) : tupsOk nss = true := by
  unfold tupsOk
  rw [Bool.and_eq_true]
  refine ⟨decide_eq_true hl, ?_⟩
  cases nss with
  | nil => rfl
  | cons t r =>
    simp only
    rw [Bool.and_eq_true, List.all_eq_true]
    have h0 := h t List.mem_cons_self
    refine ⟨decide_eq_true (by omega), fun u hu => ?_⟩
    have hu := h u hu
    rw [Bool.and_eq_true, List.all_eq_true]
    exact ⟨decide_eq_true (by omega), fun i hi => decide_eq_true (hu.2 i hi)⟩
theorem sortT_perm (nss : List (List Int)) : (sortT nss).Perm nss := List.mergeSort_perm _ _
theorem eqvAll_ints : ∀ a b : List Int, PyData.eqvAll (a.map .int) (b.map .int) = decide (a = b)
  | [], [] => rfl
  | [], _ :: _ => rfl
  | _ :: _, [] => rfl
  | x :: a, y :: b => by
    rw [List.map_cons, List.map_cons, PyData.eqvAll, eqv_int, eqvAll_ints a b]
    by_cases h : x = y
    · subst h; simp
    · simp [h]
theorem eq_ints (a b : List Int) (Q : Bool → Prop) : WO (cmpD .eq (.list (a.map .int)) (.list (b.map .int))) Q = Q (decide (a = b)) := by
  have : cmpD .eq (.list (a.map .int)) (.list (b.map .int)) = some (decide (a = b)) := by
    simp only [cmpD, eqD, shIs, Bool.and_self, if_true, PyData.eqv, eqvAll_ints]
  rw [this]; rfl
theorem ne_ints (a b : List Int) (Q : Bool → Prop) : WO (cmpD .ne (.list (a.map .int)) (.list (b.map .int))) Q = Q (!decide (a = b)) := by
  have : cmpD .ne (.list (a.map .int)) (.list (b.map .int)) = some (!decide (a = b)) := by
    simp only [cmpD, eqD, shIs, Bool.and_self, if_true, PyData.eqv, eqvAll_ints, Option.map_some]
  rw [this]; rfl
theorem b_sortK (l : List (Int × Int)) (Q : PyData → Prop) : WO (biD .sorted [dictOf (kvN l)]) Q = Q (.list ((sortI (l.map (·.1))).map .int)) := by
  have : biD .sorted [dictOf (kvN l)] = some (.list ((sortI (l.map (·.1))).map .int)) := by
    simp only [biD, on1]
    exact sorted_dict l
  rw [this]; rfl
theorem b_lenset (ns : List Int) (Q : PyData → Prop) : WO (biD .lenSet [.list (ns.map .int)]) Q = (ns.length < 4000 ∧ Q (.int (unlike ns).length)) := by
  have : biD .lenSet [.list (ns.map .int)] = if ns.length < 4000 then some (.int (unlike ns).length) else none := by
    simp only [biD, on1, lenSetB, intsIn, intsOf_ints, Option.bind_some]
  rw [this, o_iteP]
theorem keys_kvN (l : List (Int × Int)) (Q : List PyData → Prop) : WO (keysV false (.d (dictOf (kvN l)))) Q = Q ((l.map (·.1)).map .int) := by
  have : keysV false (.d (dictOf (kvN l))) = some ((l.map (·.1)).map .int) := by
    show keysD (dictOf (kvN l)) = _
    have h : (kvN l).all (fun p => flatK p.1) = true := by
      rw [List.all_eq_true]
      intro p hp
      obtain ⟨q, _, rfl⟩ := List.mem_map.mp hp
      rfl
    show ((undict ((kvN l).map fun p => (p.1.data, p.2))).bind fun kvs => if kvs.all (fun p => flatK p.1) then some (kvs.map fun p => p.1.data) else none) = _
    rw [undict_of, Option.bind_some, if_pos h]
    simp [kvN, NestedKey.data, Function.comp_def]
  rw [this]; rfl
theorem ix_kvN (l : List (Int × Int)) (c : Int) (h : c ∈ l.map (·.1)) (Q : PyData → Prop) : WO (idxD (dictOf (kvN l)) (.int c)) Q = Q (.int (lk l c)) := by
  rw [ix_dict, kvN_key, Option.bind_some, kvN_look]
  obtain ⟨p, hp, rfl⟩ := List.mem_map.mp h
  unfold lk
  cases e : l.find? fun q => decide (q.1 = p.1) with
  | none =>
    rw [List.find?_eq_none] at e
    have := e p hp
    simp at this
  | some q => rfl
/-! a dict whose values are True -/
def kvB (K : List Int) : List (NK × PyData) := K.map fun i => (.num i, .bool true)
theorem kvB_key (K : List Int) (c : Int) : dKey (kvB K) (.int c) = some (.num c) := by
  have : kindOk (kvB K) (.num c) = true := by
    unfold kindOk kvB
    rw [List.all_eq_true]
    intro p hp
    obtain ⟨i, _, rfl⟩ := List.mem_map.mp hp
    rfl
  simp [dKey, keyOf, this]
theorem kvB_look (K : List Int) (c : Int) : (dLook (kvB K) (.num c)).isSome = decide (c ∈ K) := by
  unfold dLook kvB
  rw [Option.isSome_map, Bool.eq_iff_iff, List.find?_isSome, decide_eq_true_eq]
  constructor
  · rintro ⟨p, hp, h⟩
    obtain ⟨i, hi, rfl⟩ := List.mem_map.mp hp
    have h : NestedKey.num i = .num c := by simpa using h
    cases h
    exact hi
  · intro h
    exact ⟨(.num c, .bool true), List.mem_map.mpr ⟨c, h, rfl⟩, by simp⟩
theorem kvB_put {K : List Int} {c : Int} (h : c ∉ K) : dPut (kvB K) (.num c) (.bool true) = kvB (K ++ [c]) := by
  have : ((kvB K).any fun p => decide (p.1 = .num c)) = false := by
    rw [List.any_eq_false]
    intro p hp
    obtain ⟨i, hi, rfl⟩ := List.mem_map.mp hp
    simp only [decide_eq_true_eq, NestedKey.num.injEq]
    intro e
    exact h (by rw [← e]; exact hi)
  unfold dPut
  rw [this]
  simp [kvB]
theorem in_kvB (K : List Int) (c : Int) (Q : Bool → Prop) : WO (cmpD .isIn (.int c) (dictOf (kvB K))) Q = Q (decide (c ∈ K)) := by
  simp only [cmpD]
  rw [in_dict, kvB_key, Option.map_some, o_some, kvB_look]
theorem nin_kvB (K : List Int) (c : Int) (Q : Bool → Prop) : WO (cmpD .notIn (.int c) (dictOf (kvB K))) Q = Q (!decide (c ∈ K)) := by
  simp only [cmpD]
  rw [in_dict, kvB_key, Option.map_some, Option.map_some, o_some, kvB_look]
theorem spec9 {Φ : Fns} (X : Tbl tab9 Φ) {one other : List Pl} (h1 : OkO one) (h2 : OkO other) (hl : one.length + other.length ≤ 1000) {f s : Nat} (hf : f < one.length) (hs : s < other.length) :
    Φ 9 [bd one, .int f, bd other, .int s] = .ok (.bool (alk (both2 one other) f (one.length + s : Nat))) := by
  rw [X 9 (by decide)]
  refine (f9 one other f s ⟨by omega, by omega⟩ ⟨by omega, by omega⟩ (okb_both h1 h2 hl) fun p hp => ok_goals (h2 p hp)).trans ?_
  simp
theorem spec8 {Φ : Fns} (X : Tbl tab8 Φ) {one other : List Pl} (h1 : OkO one) (h2 : OkO other) (hl : one.length + other.length ≤ 1000) (hne : one ≠ []) :
    Φ 8 [bd one, bd other] = .ok (.list ((rnds (both2 one other)).map iL)) := by
  rw [X 8 (by decide)]
  exact f8 one other hne (okb_both h1 h2 hl) fun p hp => ok_goals (h2 p hp)
theorem at_fin {one other : List Pl} : L2.atI ((rnds (both2 one other)).map iL) (-1) = some (iL (fin (both2 one other))) := last_told (rnds_ne _).1
theorem lgm {z a b : Int} (hz : z.natAbs.log2 ≤ 1048576) (a0 : 0 ≤ a) (a1 : a ≤ 1000000) (b0 : 0 ≤ b) (b1 : b ≤ 1000000) : (z * a + b).natAbs.log2 ≤ 1100000 := by
  have h1 : z.natAbs < 2 ^ (1048576 + 1) := Nat.lt_of_lt_of_le Nat.lt_log2_self (Nat.pow_le_pow_right (by omega) (by omega))
  have h2 : (z * a + b).natAbs ≤ z.natAbs * a.natAbs + b.natAbs := by
    rw [← Int.natAbs_mul]
    exact Int.natAbs_add_le _ _
  refine Nat.le_trans (log_lt (k := 1048576 + 1 + 21) ?_) (by decide)
  generalize e : 1048576 + 1 = N at h1 ⊢
  rw [Nat.pow_add]
  have h3 : z.natAbs * a.natAbs ≤ 2 ^ N * 1000000 := Nat.mul_le_mul (by omega) (by omega)
  have h4 : 1 ≤ 2 ^ N := Nat.one_le_two_pow
  have h5 : (2 : Nat) ^ 21 = 2097152 := by decide
  rw [h5]
  generalize 2 ^ N = M at h3 h4 ⊢
  omega
/-! ### changed about -/
def sw (n m x : Nat) : Nat := if x < n then m + x else x - n
theorem hom_swap {one other : List Pl} (h1 : OkO one) (h2 : OkO other) : Hom (both2 one other) (both2 other one) (sw one.length other.length) := fun i p hp => by
  by_cases hi : i < one.length
  · have hp : one[i]? = some p := by
      unfold both2 at hp
      rwa [List.getElem?_append_left hi] at hp
    have e : sw one.length other.length i = other.length + i := by simp [sw, hi]
    rw [e, both_r hp]
    congr 1
    refine map_congr fun g hg => ?_
    have := okp_of h1 hp g hg
    simp only [sw]
    rw [if_pos (by omega)]
    omega
  · obtain ⟨j, rfl⟩ : ∃ j, i = one.length + j := ⟨i - one.length, by omega⟩
    have hj : j < other.length := by
      have := (List.getElem?_eq_some_iff.mp hp).1
      simp [both2] at this
      omega
    rw [both_r (List.getElem?_eq_getElem hj)] at hp
    cases hp
    have e : sw one.length other.length (one.length + j) = j := by unfold sw; rw [if_neg (by omega)]; omega
    rw [e, both_l (List.getElem?_eq_getElem hj), map_map, map_congr (f := fun g => ((sw one.length other.length (g + one.length).toNat : Nat) : Int)) (h := fun g => g) (fun g hg => by
      have := okp_of h2 (List.getElem?_eq_getElem hj) g hg
      simp only [sw]
      rw [if_neg (by omega)]
      omega), map_id]
theorem alk_swap {one other : List Pl} (h1 : OkO one) (h2 : OkO other) (hl : one.length + other.length ≤ 1000) {f s : Nat} (hf : f < one.length) (hs : s < other.length) :
    alk (both2 other one) s (other.length + f : Nat) = alk (both2 one other) f (one.length + s : Nat) := by
  have a := hom_iff (okb_both h1 h2 hl) (okb_both h2 h1 (by omega)) (hom_swap h1 h2) (i := f) (j := one.length + s) (by simp [both2]; omega) (by simp [both2]; omega)
  have e1 : sw one.length other.length f = other.length + f := by simp [sw, hf]
  have e2 : sw one.length other.length (one.length + s) = s := by unfold sw; rw [if_neg (by omega)]; omega
  rw [e1, e2] at a
  unfold alk
  rw [cl_nat, cl_nat, cl_nat, cl_nat, decide_eq_decide]
  exact ⟨fun h => a.mpr h.symm, fun h => (a.mp h).symm⟩
theorem alk_self {one : List Pl} (h1 : OkO one) (hl : one.length + one.length ≤ 1000) {k : Nat} (hk : k < one.length) : alk (both2 one one) k (one.length + k : Nat) = true := by
  rw [mine_iff h1 h1 hl hl hk hk]
  simp
end AL
end VI
set_option Elab.async false
set_option linter.all false
set_option autoImplicit false
set_option maxRecDepth 20000
/-! The law of the rounds: its defs. -/
namespace VI
namespace K71
open PySem AL
/-- _law_goal: _law_bits=0 _law_k=1 _law_n=2 _law_mode=3 -/
def D11 : Fn := ⟨4, (.cons (.ite (.cmp .eq (.var 3) (.lit (.int 1))) (.cons (.ret (.bin .add (.bin .add (.var 1) (.lit (.int 1))) (.bin .mod (.var 0) (.bin .sub (.bin .sub (.var 2) (.lit (.int 1))) (.var 1))))) .nil) .nil) (.cons (.ret (.bin .mod (.var 0) (.var 2))) .nil))⟩
/-- _law_place: _law_cell_here=0 _law_k=1 _law_n=2 _law_mode=3 _law_bits=4 _law_many=5 _law_goals=6 _law_weights_here=7 _law_j=8 -/
def D12 : Fn := ⟨9, (.cons (.set 4 (.call 10 (.cons (.var 0) (.cons (.bin .pow (.lit (.int 2)) (.lit (.int 50))) .nil)))) (.cons (.ite (.or (.cmp .lt (.bin .mod (.var 4) (.lit (.int 8))) (.lit (.int 2))) (.and (.cmp .eq (.var 3) (.lit (.int 1))) (.cmp .eq (.var 1) (.bin .sub (.var 2) (.lit (.int 1)))))) (.cons (.ret (.tuple (.cons (.lit (.str ("end" : Str))) (.cons (.tuple (.cons (.idx (.fr (.list (.cons (.lit (.int 0)) (.cons (.lit (.int 1)) (.cons (.lit (.int 1)) .nil))))) (.bin .mod (.bin .fdiv (.var 4) (.lit (.int 8))) (.lit (.int 3)))) (.cons (.lit (.int 1)) .nil))) .nil)))) .nil) .nil) (.cons (.set 5 (.bin .add (.lit (.int 1)) (.bin .mod (.bin .fdiv (.var 4) (.lit (.int 8))) (.lit (.int 4))))) (.cons (.ite (.cmp .lt (.bin .mod (.var 4) (.lit (.int 8))) (.lit (.int 6))) (.cons (.set 5 (.bin .add (.lit (.int 1)) (.bin .mod (.bin .fdiv (.var 4) (.lit (.int 8))) (.lit (.int 3))))) (.cons (.ite (.and (.cmp .eq (.bin .mod (.bin .fdiv (.var 4) (.lit (.int 64))) (.lit (.int 16))) (.lit (.int 1))) (.cmp .lt (.var 1) (.lit (.int 8)))) (.cons (.set 5 (.bin .add (.lit (.int 1)) (.bin .mod (.bin .fdiv (.var 4) (.lit (.int 1024))) (.lit (.int 100))))) .nil) .nil) .nil)) .nil) (.cons (.own 6 (.comp (.call 11 (.cons (.call 10 (.cons (.bin .add (.bin .mul (.var 0) (.bin .add (.bin .mul (.var 8) (.var 8)) (.lit (.int 3)))) (.var 8)) (.cons (.bin .pow (.lit (.int 2)) (.lit (.int 40))) .nil))) (.cons (.var 1) (.cons (.var 2) (.cons (.var 3) .nil))))) (.name 8) (.range1 (.var 5)) (.lit (.bool true)) [8])) (.cons (.ite (.cmp .gt (.bin .mod (.var 4) (.lit (.int 8))) (.lit (.int 5))) (.cons (.ret (.tuple (.cons (.lit (.str ("pick" : Str))) (.cons (.bin .add (.lit (.int 1)) (.bin .mod (.bin .fdiv (.var 4) (.lit (.int 64))) (.lit (.int 2)))) (.cons (.var 6) .nil))))) .nil) .nil) (.cons (.own 7 (.comp (.bin .add (.lit (.int 1)) (.bin .mod (.bin .fdiv (.var 4) (.bin .add (.lit (.int 7)) (.var 8))) (.idx (.fr (.list (.cons (.lit (.int 1)) (.cons (.lit (.int 2)) (.cons (.lit (.int 10000)) .nil))))) (.bin .mod (.bin .fdiv (.var 4) (.lit (.int 32))) (.lit (.int 3)))))) (.name 8) (.range1 (.var 5)) (.lit (.bool true)) [8])) (.cons (.ret (.tuple (.cons (.lit (.str ("throw" : Str))) (.cons (.tuple (.cons (.idx (.fr (.list (.cons (.lit (.int 0)) (.cons (.lit (.int 0)) (.cons (.lit (.int 1)) .nil))))) (.bin .mod (.bin .fdiv (.var 4) (.lit (.int 16))) (.lit (.int 3)))) (.cons (.lit (.int 1)) .nil))) (.cons (.fr (.comp (.tuple (.cons (.idx (.var 7) (.var 8)) (.cons (.idx (.var 6) (.var 8)) .nil))) (.name 8) (.range1 (.var 5)) (.lit (.bool true)) [8])) .nil))))) .nil))))))))⟩
/-- _law_board: _law_script=0 _law_at=1 _law_n=2 _law_mode=3 _law_board_here=4 _law_lone=5 _law_near=6 _law_k=7 _law_pairs=8 -/
def D13 : Fn := ⟨9, (.cons (.set 2 (.bin .add (.lit (.int 1)) (.bin .mod (.call 9 (.cons (.var 0) (.cons (.var 1) .nil))) (.lit (.int 7))))) (.cons (.ite (.cmp .eq (.bin .mod (.bin .fdiv (.call 9 (.cons (.var 0) (.cons (.var 1) .nil))) (.lit (.int 7))) (.lit (.int 6))) (.lit (.int 5))) (.cons (.set 2 (.bin .add (.lit (.int 1)) (.bin .mod (.bin .fdiv (.call 9 (.cons (.var 0) (.cons (.var 1) .nil))) (.lit (.int 42))) (.lit (.int 24))))) .nil) .nil) (.cons (.set 3 (.bin .mod (.bin .fdiv (.call 9 (.cons (.var 0) (.cons (.lit (.int 2)) .nil))) (.bin .add (.lit (.int 1)) (.var 1))) (.lit (.int 2)))) (.cons (.own 4 (.comp (.call 12 (.cons (.bin .add (.bin .mul (.call 9 (.cons (.var 0) (.cons (.bin .add (.bin .add (.lit (.int 4)) (.var 7)) (.bin .mul (.lit (.int 20)) (.var 1))) .nil))) (.bin .add (.bin .mul (.var 7) (.var 7)) (.lit (.int 5)))) (.var 7)) (.cons (.var 7) (.cons (.var 2) (.cons (.var 3) .nil))))) (.name 7) (.range1 (.var 2)) (.lit (.bool true)) [7])) (.cons (.ite (.cmp .eq (.bin .mod (.bin .fdiv (.call 9 (.cons (.var 0) (.cons (.lit (.int 2)) .nil))) (.lit (.int 4))) (.lit (.int 8))) (.lit (.int 7))) (.cons (.set 5 (.bin .mod (.bin .fdiv (.call 9 (.cons (.var 0) (.cons (.lit (.int 3)) .nil))) (.bin .add (.lit (.int 1)) (.var 1))) (.var 2))) (.cons (.set 4 (.bin .add (.fr (.comp (.tuple (.cons (.lit (.str ("throw" : Str))) (.cons (.tuple (.cons (.bi .int (.cons (.cmp .eq (.var 7) (.var 5)) .nil)) (.cons (.lit (.int 1)) .nil))) (.cons (.fr (.list (.cons (.tuple (.cons (.bin .add (.lit (.int 1)) (.bin .mod (.var 7) (.lit (.int 3)))) (.cons (.bin .add (.var 7) (.lit (.int 1))) .nil))) .nil))) .nil)))) (.name 7) (.range1 (.bin .sub (.var 2) (.lit (.int 1)))) (.lit (.bool true)) [7])) (.fr (.list (.cons (.tuple (.cons (.lit (.str ("end" : Str))) (.cons (.tuple (.cons (.lit (.int 1)) (.cons (.lit (.int 1)) .nil))) .nil))) .nil))))) .nil)) .nil) (.cons (.ite (.and (.cmp .eq (.bin .mod (.bin .fdiv (.call 9 (.cons (.var 0) (.cons (.lit (.int 2)) .nil))) (.lit (.int 32))) (.lit (.int 8))) (.lit (.int 7))) (.cmp .gt (.var 2) (.lit (.int 3)))) (.cons (.own 6 (.comp (.fr (.list (.cons (.tuple (.cons (.lit (.int 1)) (.cons (.bin .sub (.var 2) (.lit (.int 2))) .nil))) (.cons (.tuple (.cons (.bin .add (.lit (.int 999998)) (.var 7)) (.cons (.bin .sub (.var 2) (.lit (.int 1))) .nil))) .nil)))) (.name 7) (.range1 (.lit (.int 2))) (.lit (.bool true)) [7])) (.cons (.set 4 (.bin .add (.bin .add (.slice (.var 4) (.lit .none) (.bin .sub (.var 2) (.lit (.int 4)))) (.fr (.comp (.tuple (.cons (.lit (.str ("throw" : Str))) (.cons (.tuple (.cons (.lit (.int 0)) (.cons (.lit (.int 1)) .nil))) (.cons (.var 8) .nil)))) (.name 8) (.seq (.var 6)) (.lit (.bool true)) [8]))) (.fr (.list (.cons (.tuple (.cons (.lit (.str ("end" : Str))) (.cons (.tuple (.cons (.lit (.int 0)) (.cons (.lit (.int 1)) .nil))) .nil))) (.cons (.tuple (.cons (.lit (.str ("end" : Str))) (.cons (.tuple (.cons (.lit (.int 1)) (.cons (.lit (.int 1)) .nil))) .nil))) .nil)))))) .nil)) .nil) (.cons (.ret (.var 4)) .nil)))))))⟩
/-- _law_behind: _law_place_here=0 _law_by=1 _law_goal_here=2 _law_weight=3 -/
def D14 : Fn := ⟨4, (.cons (.ite (.cmp .eq (.idx (.var 0) (.lit (.int 0))) (.lit (.str ("end" : Str)))) (.cons (.ret (.var 0)) .nil) .nil) (.cons (.ite (.cmp .eq (.idx (.var 0) (.lit (.int 0))) (.lit (.str ("pick" : Str)))) (.cons (.ret (.tuple (.cons (.lit (.str ("pick" : Str))) (.cons (.idx (.var 0) (.lit (.int 1))) (.cons (.fr (.comp (.bin .add (.var 2) (.var 1)) (.name 2) (.seq (.idx (.var 0) (.lit (.int 2)))) (.lit (.bool true)) [2])) .nil))))) .nil) .nil) (.cons (.ret (.tuple (.cons (.lit (.str ("throw" : Str))) (.cons (.idx (.var 0) (.lit (.int 1))) (.cons (.fr (.comp (.tuple (.cons (.var 3) (.cons (.bin .add (.var 2) (.var 1)) .nil))) (.tup [3, 2]) (.seq (.idx (.var 0) (.lit (.int 2)))) (.lit (.bool true)) [3, 2])) .nil))))) .nil)))⟩
/-- _law_weights: _law_place_here=0 _law_numbers=1 _law_sums=2 _law_goal_here=3 _law_weight=4 -/
def D15 : Fn := ⟨5, (.cons (.own 2 .dict0) (.cons (.ite (.cmp .eq (.idx (.var 0) (.lit (.int 0))) (.lit (.str ("pick" : Str)))) (.cons (.for_ (.name 3) (.seq (.idx (.var 0) (.lit (.int 2)))) (.cons (.put 2 (.idx (.var 1) (.var 3)) (.lit (.int 1))) .nil)) .nil) .nil) (.cons (.ite (.cmp .eq (.idx (.var 0) (.lit (.int 0))) (.lit (.str ("throw" : Str)))) (.cons (.for_ (.tup [4, 3]) (.seq (.idx (.var 0) (.lit (.int 2)))) (.cons (.put 2 (.idx (.var 1) (.var 3)) (.bin .add (.get2 (.var 2) (.idx (.var 1) (.var 3)) (.lit (.int 0))) (.var 4))) .nil)) .nil) .nil) (.cons (.ret (.var 2)) .nil))))⟩
/-- _law_as_one: _law_place_here=0 _law_mate=1 _law_numbers=2 _law_some=3 _law_others=4 _law_whole=5 _law_total=6 _law_number=7 -/
def D16 : Fn := ⟨8, (.cons (.set 3 (.call 15 (.cons (.var 0) (.cons (.var 2) .nil)))) (.cons (.set 4 (.call 15 (.cons (.var 1) (.cons (.var 2) .nil)))) (.cons (.ite (.cmp .ne (.bi .sorted (.cons (.var 3) .nil)) (.bi .sorted (.cons (.var 4) .nil))) (.cons (.ret (.lit (.bool false))) .nil) .nil) (.cons (.set 5 (.bi .sum (.cons (.fr (.comp (.idx (.var 3) (.var 7)) (.name 7) (.keys (.var 3)) (.lit (.bool true)) [7])) .nil))) (.cons (.set 6 (.bi .sum (.cons (.fr (.comp (.idx (.var 4) (.var 7)) (.name 7) (.keys (.var 4)) (.lit (.bool true)) [7])) .nil))) (.cons (.ret (.cmp .eq (.bi .len (.cons (.fr (.comp (.var 7) (.name 7) (.keys (.var 3)) (.cmp .ne (.bin .mul (.idx (.var 3) (.var 7)) (.var 6)) (.bin .mul (.idx (.var 4) (.var 7)) (.var 5))) [7])) .nil)) (.lit (.int 0)))) .nil))))))⟩
/-- _law_next: _law_places=0 _law_numbers=1 _law_met=2 _law_due=3 _law_at=4 _law_mates=5 _law_k=6 -/
def D17 : Fn := ⟨7, (.cons (.own 2 (.list .nil)) (.cons (.own 3 (.list .nil)) (.cons (.for_ (.name 4) (.range1 (.bi .len (.cons (.var 0) .nil))) (.cons (.own 5 (.comp (.var 6) (.name 6) (.seq (.var 2)) (.and (.cmp .eq (.idx (.var 1) (.var 6)) (.idx (.var 1) (.var 4))) (.call 16 (.cons (.idx (.var 0) (.var 6)) (.cons (.idx (.var 0) (.var 4)) (.cons (.var 1) .nil))))) [6])) (.cons (.ite (.cmp .eq (.var 5) (.fr (.list .nil))) (.cons (.append 2 (.var 4)) (.cons (.own 5 (.list (.cons (.var 4) .nil))) .nil)) .nil) (.cons (.append 3 (.mt .index (.var 2) (.cons (.idx (.var 5) (.lit (.int 0))) .nil))) .nil)))) (.cons (.ret (.var 3)) .nil))))⟩
/-- law: _law_script=0 _law_one=1 _law_other=2 _law_found=3 _law_places=4 _law_row=5 _law_k=6 _law_due=7 _law_more=8 _law_place_here=9 -/
def D18 : Fn := ⟨10, (.cons (.set 1 (.call 13 (.cons (.var 0) (.cons (.lit (.int 0)) .nil)))) (.cons (.set 2 (.call 13 (.cons (.var 0) (.cons (.lit (.int 1)) .nil)))) (.cons (.set 3 (.call 8 (.cons (.fr (.listOf (.var 1))) (.cons (.fr (.listOf (.var 2))) .nil)))) (.cons (.ite (.or (.not (.bi .isList (.cons (.var 3) .nil))) (.cmp .eq (.bi .len (.cons (.var 3) .nil)) (.lit (.int 0)))) (.cons (.ret (.lit (.bool false))) .nil) .nil) (.cons (.set 4 (.bin .add (.var 1) (.fr (.comp (.call 14 (.cons (.var 9) (.cons (.bi .len (.cons (.var 1) .nil)) .nil))) (.name 9) (.seq (.var 2)) (.lit (.bool true)) [9])))) (.cons (.for_ (.name 5) (.seq (.var 3)) (.cons (.ite (.or (.not (.bi .isList (.cons (.var 5) .nil))) (.cmp .ne (.bi .len (.cons (.var 5) .nil)) (.bi .len (.cons (.var 4) .nil)))) (.cons (.ret (.lit (.bool false))) .nil) .nil) .nil)) (.cons (.for_ (.name 6) (.range1 (.bi .len (.cons (.var 3) .nil))) (.cons (.set 7 (.call 17 (.cons (.var 4) (.cons (.idx (.var 3) (.var 6)) .nil)))) (.cons (.set 8 (.cmp .gt (.bi .lenSet (.cons (.var 7) .nil)) (.bi .lenSet (.cons (.idx (.var 3) (.var 6)) .nil)))) (.cons (.ite (.cmp .lt (.bin .add (.var 6) (.lit (.int 1))) (.bi .len (.cons (.var 3) .nil))) (.cons (.ite (.or (.not (.var 8)) (.cmp .ne (.idx (.var 3) (.bin .add (.var 6) (.lit (.int 1)))) (.var 7))) (.cons (.ret (.lit (.bool false))) .nil) .nil) .nil) (.cons (.ite (.var 8) (.cons (.ret (.lit (.bool false))) .nil) .nil) .nil)) .nil)))) (.cons (.ret (.lit (.bool true))) .nil))))))))⟩
end K71
end VI
set_option Elab.async false
set_option linter.all false
set_option autoImplicit false
set_option maxRecDepth 20000
namespace VI
namespace K71
open PySem AL
abbrev Cell (Φ : Fns) (ns : List Int) : Prop := ∀ k : Int, 0 ≤ k → k ≤ 1000 → R0 (Φ 9 [iL ns, .int k]) fun x => ∃ z, x = .int z ∧ z.natAbs.log2 ≤ 1048576
abbrev Mixed (Φ : Fns) : Prop := ∀ c m : Int, 0 < m → R0 (Φ 10 [.int c, .int m]) fun x => ∃ r, x = .int r ∧ 0 ≤ r ∧ r < m
theorem goal {Φ : Fns} {b k n m : Int} (hk : 0 ≤ k ∧ k < n) (hm : m = 1 → k < n - 1) : R0 (run Φ D11 [.int b, .int k, .int n, .int m]) fun x => ∃ g, x = .int g ∧ 0 ≤ g ∧ g < n := by
  refine w_run ?_
  simp only [startE, List.map_cons, List.map_nil, List.length_cons, List.length_nil, List.replicate, List.cons_append, List.nil_append, Nat.reduceAdd, Nat.reduceSub, w_ok, w_bind, w_ofO, o_some, o_map, o_bind, i_t, i_f, i_d, i_not, w_lit, w_glob, w_var, v_d, v_l, v_k, o_both, w_bin, w_neg, w_tru, w_not, w_and, w_or, w_cmp, w_chain, w_ife, w_call, w_bi, w_get2, w_mt, w_idx, w_slice, w_tuple, w_fr, ws_nil, ws_cons, wo_list, wo_listOf, wo_dict0, wo_dict1, wo_comp, wi_seq, wi_range1, wi_range2, wi_enum, wi_zip, wi_rev, wi_keys, w_lookf, w_lookt, w_frd, w_fro, f_l, f_k, w_fa0, w_fa1, o_view, o_viewd, o_views0, o_views1, uc_int, uc_bool, uc_str, uc_none, uc_list, uc_tuple, k_nx, k_bk, k_ct, k_rt, w_nil, w_cons, w_set, w_own, w_unpack, w_par, w_put, w_append, w_insert, w_pop, w_popTo, w_onl, l_l, w_putE, p_l, p_k, w_expr, w_ret, w_retN, w_ite, w_wh, w_for, w_brk, w_cont, w_pass, a_ii, a_ss, a_ll, a_tt, s_ii, m_ii, d_ii, r_ii, t_none, t_bool, t_int, t_list, t_tuple, n_int, lt_ii, le_ii, gt_ii, ge_ii, eq_ii, ne_ii, eq_bb, ne_bb, is_bb, isn_bb, i_li, i_ti, sq_l, sq_t, sq_s, ll_l, as_l, as_t, ip_i, b_lenl, b_lent, b_lens, b_abs, b_inti, b_intb, b_tl, b_isb, b_isl, b_ist, b_isi, b_isbi, l_nx, l_ct, l_bk, l_rt, slot_l, slot_k, slot_d, Option.bind_some, Option.bind_none, List.getElem?_cons_zero, List.getElem?_cons_succ, List.set_cons_zero, List.set_cons_succ, at0, at1, at2, isLst, isOwn, true_and, and_true, Bool.not_true, Bool.not_false, decide_true, decide_false, o_ite, o_iteP, p64, p50, p40, p11, p11b, p12, p6, dk2, dk3, dk4, dk5, dk7, dk8, dk10, dk16, dk32, dk64, dk128, dk1024, dk2048, dk42, dk60, dk9, dk6, asg, setAll, wipeE, reduceIte, eq_self, ite_true, ite_false, b_sum, b_sum2, es_ee, nes_ee, es_ep, nes_ep, es_et, nes_et, es_pe, nes_pe, es_pp, nes_pp, es_pt, nes_pt, es_te, nes_te, es_tp, nes_tp, es_tt, nes_tt, o_last, la_l, dk0_int, dk0_str, nl_none, nl_int, nl_var, nl_bin, nl_neg, nl_idx, nl_bi, pt_t, pt_f, sl_l, sl_t, mul_li, b_isbl, view_d, Option.map_some, tyD, mtTy, view_o, tyD_dic ]
  refine ⟨fun h => ?_, fun h => ?_⟩
  · have := hm h
    have h1 := Int.emod_nonneg b (b := n - 1 - k) (by omega)
    have h2 := Int.emod_lt_of_pos b (b := n - 1 - k) (by omega)
    exact ⟨by omega, _, rfl, by omega, by omega⟩
  · exact ⟨by omega, _, rfl, Int.emod_nonneg _ (by omega), Int.emod_lt_of_pos _ (by omega)⟩
theorem place {Φ : Fns} {c k n m : Int} (hc : c.natAbs.log2 ≤ 1100000) (hn : n ≤ 100) (hk : 0 ≤ k ∧ k < n) (hm : m = 0 ∨ m = 1) (h11 : Mixed Φ)
    (h12 : ∀ b k n m : Int, (0 ≤ k ∧ k < n) → (m = 1 → k < n - 1) → R0 (Φ 11 [.int b, .int k, .int n, .int m]) fun x => ∃ g, x = .int g ∧ 0 ≤ g ∧ g < n) : R0 (run Φ D12 [.int c, .int k, .int n, .int m]) fun x => ∃ p : Pl, x = p.enc ∧ OkP n.toNat p := by
  have mm : (100 : Nat) ≤ most := by decide
  refine w_run ?_
  simp only [startE, List.map_cons, List.map_nil, List.length_cons, List.length_nil, List.replicate, List.cons_append, List.nil_append, Nat.reduceAdd, Nat.reduceSub, w_ok, w_bind, w_ofO, o_some, o_map, o_bind, i_t, i_f, i_not, w_lit, w_glob, w_var, v_d, v_l, v_k, o_both, w_bin, w_neg, w_tru, w_not, w_and, w_or, w_cmp, w_chain, w_ife, w_call, w_bi, w_get2, w_mt, w_idx, w_slice, w_tuple, w_fr, ws_nil, ws_cons, wo_list, wo_listOf, wo_dict0, wo_dict1, wo_comp, wi_seq, wi_range1, wi_range2, wi_enum, wi_zip, wi_rev, wi_keys, w_lookf, w_lookt, w_frd, w_fro, f_l, f_k, w_fa0, w_fa1, o_view, o_viewd, o_views0, o_views1, uc_int, uc_bool, uc_str, uc_none, uc_list, uc_tuple, k_bk, k_ct, k_rt, w_nil, w_cons, w_set, w_own, w_unpack, w_par, w_put, w_append, w_insert, w_pop, w_popTo, w_onl, l_l, w_putE, p_l, p_k, w_expr, w_ret, w_retN, w_ite, w_wh, w_for, w_brk, w_cont, w_pass, a_ii, a_ss, a_ll, a_tt, s_ii, m_ii, d_ii, r_ii, t_none, t_bool, t_int, t_list, t_tuple, n_int, lt_ii, le_ii, gt_ii, ge_ii, eq_ii, ne_ii, eq_bb, ne_bb, is_bb, isn_bb, i_li, i_ti, sq_l, sq_t, sq_s, ll_l, as_l, as_t, ip_i, b_lenl, b_lent, b_lens, b_abs, b_inti, b_intb, b_tl, b_isb, b_isl, b_ist, b_isi, b_isbi, l_nx, l_ct, l_bk, l_rt, slot_l, slot_k, slot_d, Option.bind_some, Option.bind_none, List.getElem?_cons_zero, List.getElem?_cons_succ, List.set_cons_zero, List.set_cons_succ, at0, at1, at2, isLst, isOwn, true_and, and_true, Bool.not_true, Bool.not_false, decide_true, decide_false, o_ite, o_iteP, p64, p50, p40, p11, p11b, p12, p6, dk2, dk3, dk4, dk5, dk7, dk8, dk10, dk16, dk32, dk64, dk128, dk1024, dk2048, dk42, dk60, dk9, dk6, asg, setAll, wipeE, reduceIte, eq_self, ite_true, ite_false, b_sum, b_sum2, es_ee, nes_ee, es_ep, nes_ep, es_et, nes_et, es_pe, nes_pe, es_pp, nes_pp, es_pt, nes_pt, es_te, nes_te, es_tp, nes_tp, es_tt, nes_tt, o_last, la_l, dk0_int, dk0_str, nl_none, nl_int, nl_var, nl_bin, nl_neg, nl_idx, nl_bi, pt_t, pt_f, sl_l, sl_t, mul_li, b_isbl, view_d, Option.map_some, tyD, mtTy, view_o, tyD_dic]
  refine call0 (h11 _ _ (by omega)) rfl ?_
  rintro _ ⟨b, rfl, b0, b1⟩
  simp only [startE, List.map_cons, List.map_nil, List.length_cons, List.length_nil, List.replicate, List.cons_append, List.nil_append, Nat.reduceAdd, Nat.reduceSub, w_ok, w_bind, w_ofO, o_some, o_map, o_bind, i_t, i_f, i_not, w_lit, w_glob, w_var, v_d, v_l, v_k, o_both, w_bin, w_neg, w_tru, w_not, w_and, w_or, w_cmp, w_chain, w_ife, w_call, w_bi, w_get2, w_mt, w_idx, w_slice, w_tuple, w_fr, ws_nil, ws_cons, wo_list, wo_listOf, wo_dict0, wo_dict1, wo_comp, wi_seq, wi_range1, wi_range2, wi_enum, wi_zip, wi_rev, wi_keys, w_lookf, w_lookt, w_frd, w_fro, f_l, f_k, w_fa0, w_fa1, o_view, o_viewd, o_views0, o_views1, uc_int, uc_bool, uc_str, uc_none, uc_list, uc_tuple, k_bk, k_ct, k_rt, w_nil, w_cons, w_set, w_own, w_unpack, w_par, w_put, w_append, w_insert, w_pop, w_popTo, w_onl, l_l, w_putE, p_l, p_k, w_expr, w_ret, w_retN, w_ite, w_wh, w_for, w_brk, w_cont, w_pass, a_ii, a_ss, a_ll, a_tt, s_ii, m_ii, d_ii, r_ii, t_none, t_bool, t_int, t_list, t_tuple, n_int, lt_ii, le_ii, gt_ii, ge_ii, eq_ii, ne_ii, eq_bb, ne_bb, is_bb, isn_bb, i_li, i_ti, sq_l, sq_t, sq_s, ll_l, as_l, as_t, ip_i, b_lenl, b_lent, b_lens, b_abs, b_inti, b_intb, b_tl, b_isb, b_isl, b_ist, b_isi, b_isbi, l_nx, l_ct, l_bk, l_rt, slot_l, slot_k, slot_d, Option.bind_some, Option.bind_none, List.getElem?_cons_zero, List.getElem?_cons_succ, List.set_cons_zero, List.set_cons_succ, at0, at1, at2, isLst, isOwn, true_and, and_true, Bool.not_true, Bool.not_false, decide_true, decide_false, o_ite, o_iteP, p64, p50, p40, p11, p11b, p12, p6, dk2, dk3, dk4, dk5, dk7, dk8, dk10, dk16, dk32, dk64, dk128, dk1024, dk2048, dk42, dk60, dk9, dk6, asg, setAll, wipeE, reduceIte, eq_self, ite_true, ite_false, b_sum, b_sum2, es_ee, nes_ee, es_ep, nes_ep, es_et, nes_et, es_pe, nes_pe, es_pp, nes_pp, es_pt, nes_pt, es_te, nes_te, es_tp, nes_tp, es_tt, nes_tt, o_last, la_l, dk0_int, dk0_str, nl_none, nl_int, nl_var, nl_bin, nl_neg, nl_idx, nl_bi, pt_t, pt_f, sl_l, sl_t, mul_li, b_isbl, view_d, Option.map_some, tyD, mtTy, view_o, tyD_dic]
  rw [k_nx]
  refine cut (fun f ρ => match f with
    | .rt x => ∃ p : Pl, x = p.enc ∧ OkP n.toNat p
    | .nx => ρ = [.d (.int c), .d (.int k), .d (.int n), .d (.int m), .d (.int b), .unb, .unb, .unb, .unb] ∧ (m = 1 → k < n - 1)
    | _ => False) ?_ ?_
  · have key : WO (L2.atI [PyData.int 0, PyData.int 1, PyData.int 1] (b / 8 % 3)) fun z => ∃ p : Pl, PyData.tuple [PyData.str (Str.ofString "end"), PyData.tuple [z, PyData.int 1]] = p.enc ∧ OkP n.toNat p :=
      at_three ⟨by omega, by omega⟩ ⟨.fin (0, 1), rfl, trivial⟩ ⟨.fin (1, 1), rfl, trivial⟩ ⟨.fin (1, 1), rfl, trivial⟩
    simp only [startE, List.map_cons, List.map_nil, List.length_cons, List.length_nil, List.replicate, List.cons_append, List.nil_append, Nat.reduceAdd, Nat.reduceSub, w_ok, w_bind, w_ofO, o_some, o_map, o_bind, i_t, i_f, i_d, i_not, w_lit, w_glob, w_var, v_d, v_l, v_k, o_both, w_bin, w_neg, w_tru, w_not, w_and, w_or, w_cmp, w_chain, w_ife, w_call, w_bi, w_get2, w_mt, w_idx, w_slice, w_tuple, w_fr, ws_nil, ws_cons, wo_list, wo_listOf, wo_dict0, wo_dict1, wo_comp, wi_seq, wi_range1, wi_range2, wi_enum, wi_zip, wi_rev, wi_keys, w_lookf, w_lookt, w_frd, w_fro, f_l, f_k, w_fa0, w_fa1, o_view, o_viewd, o_views0, o_views1, uc_int, uc_bool, uc_str, uc_none, uc_list, uc_tuple, k_nx, k_bk, k_ct, k_rt, w_nil, w_cons, w_set, w_own, w_unpack, w_par, w_put, w_append, w_insert, w_pop, w_popTo, w_onl, l_l, w_putE, p_l, p_k, w_expr, w_ret, w_retN, w_ite, w_wh, w_for, w_brk, w_cont, w_pass, a_ii, a_ss, a_ll, a_tt, s_ii, m_ii, d_ii, r_ii, t_none, t_bool, t_int, t_list, t_tuple, n_int, lt_ii, le_ii, gt_ii, ge_ii, eq_ii, ne_ii, eq_bb, ne_bb, is_bb, isn_bb, i_li, i_ti, sq_l, sq_t, sq_s, ll_l, as_l, as_t, ip_i, b_lenl, b_lent, b_lens, b_abs, b_inti, b_intb, b_tl, b_isb, b_isl, b_ist, b_isi, b_isbi, l_nx, l_ct, l_bk, l_rt, slot_l, slot_k, slot_d, Option.bind_some, Option.bind_none, List.getElem?_cons_zero, List.getElem?_cons_succ, List.set_cons_zero, List.set_cons_succ, at0, at1, at2, isLst, isOwn, true_and, and_true, Bool.not_true, Bool.not_false, decide_true, decide_false, o_ite, o_iteP, p64, p50, p40, p11, p11b, p12, p6, dk2, dk3, dk4, dk5, dk7, dk8, dk10, dk16, dk32, dk64, dk128, dk1024, dk2048, dk42, dk60, dk9, dk6, asg, setAll, wipeE, reduceIte, eq_self, ite_true, ite_false, b_sum, b_sum2, es_ee, nes_ee, es_ep, nes_ep, es_et, nes_et, es_pe, nes_pe, es_pp, nes_pp, es_pt, nes_pt, es_te, nes_te, es_tp, nes_tp, es_tt, nes_tt, o_last, la_l, dk0_int, dk0_str, nl_none, nl_int, nl_var, nl_bin, nl_neg, nl_idx, nl_bi, pt_t, pt_f, sl_l, sl_t, mul_li, b_isbl, view_d, Option.map_some, tyD, mtTy, view_o, tyD_dic ]
    refine ⟨by omega, fun h => ⟨fun _ => ⟨by omega, key⟩, fun h2 => absurd h h2⟩, fun h => ⟨fun h1 => ⟨fun h2 => ⟨by omega, key⟩, fun h2 h3 => by omega⟩, fun h1 => ⟨fun h2 => absurd h2 h1, fun _ h2 => absurd h2 h1⟩⟩⟩
  intro f ρ hf
  match f, hf with
  | .rt x, h => exact h
  | .nx, ⟨h, hm1⟩ =>
  subst h
  rw [k_nx]
  simp only [startE, List.map_cons, List.map_nil, List.length_cons, List.length_nil, List.replicate, List.cons_append, List.nil_append, Nat.reduceAdd, Nat.reduceSub, w_ok, w_bind, w_ofO, o_some, o_map, o_bind, i_t, i_f, i_not, w_lit, w_glob, w_var, v_d, v_l, v_k, o_both, w_bin, w_neg, w_tru, w_not, w_and, w_or, w_cmp, w_chain, w_ife, w_call, w_bi, w_get2, w_mt, w_idx, w_slice, w_tuple, w_fr, ws_nil, ws_cons, wo_list, wo_listOf, wo_dict0, wo_dict1, wo_comp, wi_seq, wi_range1, wi_range2, wi_enum, wi_zip, wi_rev, wi_keys, w_lookf, w_lookt, w_frd, w_fro, f_l, f_k, w_fa0, w_fa1, o_view, o_viewd, o_views0, o_views1, uc_int, uc_bool, uc_str, uc_none, uc_list, uc_tuple, k_bk, k_ct, k_rt, w_nil, w_cons, w_set, w_own, w_unpack, w_par, w_put, w_append, w_insert, w_pop, w_popTo, w_onl, l_l, w_putE, p_l, p_k, w_expr, w_ret, w_retN, w_ite, w_wh, w_for, w_brk, w_cont, w_pass, a_ii, a_ss, a_ll, a_tt, s_ii, m_ii, d_ii, r_ii, t_none, t_bool, t_int, t_list, t_tuple, n_int, lt_ii, le_ii, gt_ii, ge_ii, eq_ii, ne_ii, eq_bb, ne_bb, is_bb, isn_bb, i_li, i_ti, sq_l, sq_t, sq_s, ll_l, as_l, as_t, ip_i, b_lenl, b_lent, b_lens, b_abs, b_inti, b_intb, b_tl, b_isb, b_isl, b_ist, b_isi, b_isbi, l_nx, l_ct, l_bk, l_rt, slot_l, slot_k, slot_d, Option.bind_some, Option.bind_none, List.getElem?_cons_zero, List.getElem?_cons_succ, List.set_cons_zero, List.set_cons_succ, at0, at1, at2, isLst, isOwn, true_and, and_true, Bool.not_true, Bool.not_false, decide_true, decide_false, o_ite, o_iteP, p64, p50, p40, p11, p11b, p12, p6, dk2, dk3, dk4, dk5, dk7, dk8, dk10, dk16, dk32, dk64, dk128, dk1024, dk2048, dk42, dk60, dk9, dk6, asg, setAll, wipeE, reduceIte, eq_self, ite_true, ite_false, b_sum, b_sum2, es_ee, nes_ee, es_ep, nes_ep, es_et, nes_et, es_pe, nes_pe, es_pp, nes_pp, es_pt, nes_pt, es_te, nes_te, es_tp, nes_tp, es_tt, nes_tt, o_last, la_l, dk0_int, dk0_str, nl_none, nl_int, nl_var, nl_bin, nl_neg, nl_idx, nl_bi, pt_t, pt_f, sl_l, sl_t, mul_li, b_isbl, view_d, Option.map_some, tyD, mtTy, view_o, tyD_dic]
  refine ⟨by omega, ?_⟩
  rw [k_nx]
  refine cutn (fun ρ => ∃ q : Nat, ρ = [.d (.int c), .d (.int k), .d (.int n), .d (.int m), .d (.int b), .d (.int q), .unb, .unb, .unb] ∧ 1 ≤ q ∧ q ≤ 100 ∧ (5 < b % 8 → q ≤ 4)) ?_ ?_
  · simp only [startE, List.map_cons, List.map_nil, List.length_cons, List.length_nil, List.replicate, List.cons_append, List.nil_append, Nat.reduceAdd, Nat.reduceSub, w_ok, w_bind, w_ofO, o_some, o_map, o_bind, i_t, i_f, i_d, i_not, w_lit, w_glob, w_var, v_d, v_l, v_k, o_both, w_bin, w_neg, w_tru, w_not, w_and, w_or, w_cmp, w_chain, w_ife, w_call, w_bi, w_get2, w_mt, w_idx, w_slice, w_tuple, w_fr, ws_nil, ws_cons, wo_list, wo_listOf, wo_dict0, wo_dict1, wo_comp, wi_seq, wi_range1, wi_range2, wi_enum, wi_zip, wi_rev, wi_keys, w_lookf, w_lookt, w_frd, w_fro, f_l, f_k, w_fa0, w_fa1, o_view, o_viewd, o_views0, o_views1, uc_int, uc_bool, uc_str, uc_none, uc_list, uc_tuple, k_nx, k_bk, k_ct, k_rt, w_nil, w_cons, w_set, w_own, w_unpack, w_par, w_put, w_append, w_insert, w_pop, w_popTo, w_onl, l_l, w_putE, p_l, p_k, w_expr, w_ret, w_retN, w_ite, w_wh, w_for, w_brk, w_cont, w_pass, a_ii, a_ss, a_ll, a_tt, s_ii, m_ii, d_ii, r_ii, t_none, t_bool, t_int, t_list, t_tuple, n_int, lt_ii, le_ii, gt_ii, ge_ii, eq_ii, ne_ii, eq_bb, ne_bb, is_bb, isn_bb, i_li, i_ti, sq_l, sq_t, sq_s, ll_l, as_l, as_t, ip_i, b_lenl, b_lent, b_lens, b_abs, b_inti, b_intb, b_tl, b_isb, b_isl, b_ist, b_isi, b_isbi, l_nx, l_ct, l_bk, l_rt, slot_l, slot_k, slot_d, Option.bind_some, Option.bind_none, List.getElem?_cons_zero, List.getElem?_cons_succ, List.set_cons_zero, List.set_cons_succ, at0, at1, at2, isLst, isOwn, true_and, and_true, Bool.not_true, Bool.not_false, decide_true, decide_false, o_ite, o_iteP, p64, p50, p40, p11, p11b, p12, p6, dk2, dk3, dk4, dk5, dk7, dk8, dk10, dk16, dk32, dk64, dk128, dk1024, dk2048, dk42, dk60, dk9, dk6, asg, setAll, wipeE, reduceIte, eq_self, ite_true, ite_false, b_sum, b_sum2, es_ee, nes_ee, es_ep, nes_ep, es_et, nes_et, es_pe, nes_pe, es_pp, nes_pp, es_pt, nes_pt, es_te, nes_te, es_tp, nes_tp, es_tt, nes_tt, o_last, la_l, dk0_int, dk0_str, nl_none, nl_int, nl_var, nl_bin, nl_neg, nl_idx, nl_bi, pt_t, pt_f, sl_l, sl_t, mul_li, b_isbl, view_d, Option.map_some, tyD, mtTy, view_o, tyD_dic ]
    have f1 : ∀ w : Int, 1 ≤ w → w ≤ 100 → (5 < b % 8 → w ≤ 4) → ∃ q : Nat, ([.d (.int c), .d (.int k), .d (.int n), .d (.int m), .d (.int b), .d (.int w), .unb, .unb, .unb] : Env) = [.d (.int c), .d (.int k), .d (.int n), .d (.int m), .d (.int b), .d (.int q), .unb, .unb, .unb] ∧ 1 ≤ q ∧ q ≤ 100 ∧ (5 < b % 8 → q ≤ 4) := fun w h1 h2 h3 => ⟨w.toNat, by rw [Int.toNat_of_nonneg (by omega)], by omega, by omega, by omega⟩
    refine ⟨by omega, fun h => ⟨by omega, by omega, fun h1 => ⟨fun h2 => ⟨by omega, f1 _ (by omega) (by omega) (by omega)⟩, fun h2 => f1 _ (by omega) (by omega) (by omega)⟩, fun h1 => ⟨fun h2 => absurd h2 h1, fun _ => f1 _ (by omega) (by omega) (by omega)⟩⟩, fun h => f1 _ (by omega) (by omega) (by omega)⟩
  rintro _ ⟨q, rfl, q1, q2, q3⟩
  simp only [startE, List.map_cons, List.map_nil, List.length_cons, List.length_nil, List.replicate, List.cons_append, List.nil_append, Nat.reduceAdd, Nat.reduceSub, w_ok, w_bind, w_ofO, o_some, o_map, o_bind, i_t, i_f, i_not, w_lit, w_glob, w_var, v_d, v_l, v_k, o_both, w_bin, w_neg, w_tru, w_not, w_and, w_or, w_cmp, w_chain, w_ife, w_call, w_bi, w_get2, w_mt, w_idx, w_slice, w_tuple, w_fr, ws_nil, ws_cons, wo_list, wo_listOf, wo_dict0, wo_dict1, wo_comp, wi_seq, wi_range1, wi_range2, wi_enum, wi_zip, wi_rev, wi_keys, w_lookf, w_lookt, w_frd, w_fro, f_l, f_k, w_fa0, w_fa1, o_view, o_viewd, o_views0, o_views1, uc_int, uc_bool, uc_str, uc_none, uc_list, uc_tuple, k_bk, k_ct, k_rt, w_nil, w_cons, w_set, w_own, w_unpack, w_par, w_put, w_append, w_insert, w_pop, w_popTo, w_onl, l_l, w_putE, p_l, p_k, w_expr, w_ret, w_retN, w_ite, w_wh, w_for, w_brk, w_cont, w_pass, a_ii, a_ss, a_ll, a_tt, s_ii, m_ii, d_ii, r_ii, t_none, t_bool, t_int, t_list, t_tuple, n_int, lt_ii, le_ii, gt_ii, ge_ii, eq_ii, ne_ii, eq_bb, ne_bb, is_bb, isn_bb, i_li, i_ti, sq_l, sq_t, sq_s, ll_l, as_l, as_t, ip_i, b_lenl, b_lent, b_lens, b_abs, b_inti, b_intb, b_tl, b_isb, b_isl, b_ist, b_isi, b_isbi, l_nx, l_ct, l_bk, l_rt, slot_l, slot_k, slot_d, Option.bind_some, Option.bind_none, List.getElem?_cons_zero, List.getElem?_cons_succ, List.set_cons_zero, List.set_cons_succ, at0, at1, at2, isLst, isOwn, true_and, and_true, Bool.not_true, Bool.not_false, decide_true, decide_false, o_ite, o_iteP, p64, p50, p40, p11, p11b, p12, p6, dk2, dk3, dk4, dk5, dk7, dk8, dk10, dk16, dk32, dk64, dk128, dk1024, dk2048, dk42, dk60, dk9, dk6, asg, setAll, wipeE, reduceIte, eq_self, ite_true, ite_false, b_sum, b_sum2, es_ee, nes_ee, es_ep, nes_ep, es_et, nes_et, es_pe, nes_pe, es_pp, nes_pp, es_pt, nes_pt, es_te, nes_te, es_tp, nes_tp, es_tt, nes_tt, o_last, la_l, dk0_int, dk0_str, nl_none, nl_int, nl_var, nl_bin, nl_neg, nl_idx, nl_bi, pt_t, pt_f, sl_l, sl_t, mul_li, b_isbl, view_d, Option.map_some, tyD, mtTy, view_o, tyD_dic]
  refine ⟨r62_sm (by omega), w_cw1 (List.range q) (fun k : Nat => .int k) (fun _ z => ∃ g : Int, z = .int g ∧ 0 ≤ g ∧ g < n) (rd0 q) rfl (by simp; omega) (fun j hj => ?_) fun zs hz => ?_⟩
  · have hk : j < q := List.mem_range.mp hj
    simp only [startE, List.map_cons, List.map_nil, List.length_cons, List.length_nil, List.replicate, List.cons_append, List.nil_append, Nat.reduceAdd, Nat.reduceSub, w_ok, w_bind, w_ofO, o_some, o_map, o_bind, i_t, i_f, i_not, w_lit, w_glob, w_var, v_d, v_l, v_k, o_both, w_bin, w_neg, w_tru, w_not, w_and, w_or, w_cmp, w_chain, w_ife, w_call, w_bi, w_get2, w_mt, w_idx, w_slice, w_tuple, w_fr, ws_nil, ws_cons, wo_list, wo_listOf, wo_dict0, wo_dict1, wo_comp, wi_seq, wi_range1, wi_range2, wi_enum, wi_zip, wi_rev, wi_keys, w_lookf, w_lookt, w_frd, w_fro, f_l, f_k, w_fa0, w_fa1, o_view, o_viewd, o_views0, o_views1, uc_int, uc_bool, uc_str, uc_none, uc_list, uc_tuple, k_bk, k_ct, k_rt, w_nil, w_cons, w_set, w_own, w_unpack, w_par, w_put, w_append, w_insert, w_pop, w_popTo, w_onl, l_l, w_putE, p_l, p_k, w_expr, w_ret, w_retN, w_ite, w_wh, w_for, w_brk, w_cont, w_pass, a_ii, a_ss, a_ll, a_tt, s_ii, m_ii, d_ii, r_ii, t_none, t_bool, t_int, t_list, t_tuple, n_int, lt_ii, le_ii, gt_ii, ge_ii, eq_ii, ne_ii, eq_bb, ne_bb, is_bb, isn_bb, i_li, i_ti, sq_l, sq_t, sq_s, ll_l, as_l, as_t, ip_i, b_lenl, b_lent, b_lens, b_abs, b_inti, b_intb, b_tl, b_isb, b_isl, b_ist, b_isi, b_isbi, l_nx, l_ct, l_bk, l_rt, slot_l, slot_k, slot_d, Option.bind_some, Option.bind_none, List.getElem?_cons_zero, List.getElem?_cons_succ, List.set_cons_zero, List.set_cons_succ, at0, at1, at2, isLst, isOwn, true_and, and_true, Bool.not_true, Bool.not_false, decide_true, decide_false, o_ite, o_iteP, p64, p50, p40, p11, p11b, p12, p6, dk2, dk3, dk4, dk5, dk7, dk8, dk10, dk16, dk32, dk64, dk128, dk1024, dk2048, dk42, dk60, dk9, dk6, asg, setAll, wipeE, reduceIte, eq_self, ite_true, ite_false, b_sum, b_sum2, es_ee, nes_ee, es_ep, nes_ep, es_et, nes_et, es_pe, nes_pe, es_pp, nes_pp, es_pt, nes_pt, es_te, nes_te, es_tp, nes_tp, es_tt, nes_tt, o_last, la_l, dk0_int, dk0_str, nl_none, nl_int, nl_var, nl_bin, nl_neg, nl_idx, nl_bi, pt_t, pt_f, sl_l, sl_t, mul_li, b_isbl, view_d, Option.map_some, tyD, mtTy, view_o, tyD_dic]
    have hkk : ((j : Int) * j) ≤ 100 * 100 := by
      have : j * j ≤ 100 * 100 := Nat.mul_le_mul (by omega) (by omega)
      exact_mod_cast this
    have hkn : (0 : Int) ≤ (j : Int) * j := by exact_mod_cast Nat.zero_le (j * j)
    refine ⟨mulOk_sm (by omega) (by omega) (by omega) (by omega), mulOk_of (by omega) (log_sm (by omega) (by omega)), call0 (h11 _ _ (by omega)) rfl ?_⟩
    rintro _ ⟨r, rfl, r0, r1⟩
    simp only [startE, List.map_cons, List.map_nil, List.length_cons, List.length_nil, List.replicate, List.cons_append, List.nil_append, Nat.reduceAdd, Nat.reduceSub, w_ok, w_bind, w_ofO, o_some, o_map, o_bind, i_t, i_f, i_not, w_lit, w_glob, w_var, v_d, v_l, v_k, o_both, w_bin, w_neg, w_tru, w_not, w_and, w_or, w_cmp, w_chain, w_ife, w_call, w_bi, w_get2, w_mt, w_idx, w_slice, w_tuple, w_fr, ws_nil, ws_cons, wo_list, wo_listOf, wo_dict0, wo_dict1, wo_comp, wi_seq, wi_range1, wi_range2, wi_enum, wi_zip, wi_rev, wi_keys, w_lookf, w_lookt, w_frd, w_fro, f_l, f_k, w_fa0, w_fa1, o_view, o_viewd, o_views0, o_views1, uc_int, uc_bool, uc_str, uc_none, uc_list, uc_tuple, k_bk, k_ct, k_rt, w_nil, w_cons, w_set, w_own, w_unpack, w_par, w_put, w_append, w_insert, w_pop, w_popTo, w_onl, l_l, w_putE, p_l, p_k, w_expr, w_ret, w_retN, w_ite, w_wh, w_for, w_brk, w_cont, w_pass, a_ii, a_ss, a_ll, a_tt, s_ii, m_ii, d_ii, r_ii, t_none, t_bool, t_int, t_list, t_tuple, n_int, lt_ii, le_ii, gt_ii, ge_ii, eq_ii, ne_ii, eq_bb, ne_bb, is_bb, isn_bb, i_li, i_ti, sq_l, sq_t, sq_s, ll_l, as_l, as_t, ip_i, b_lenl, b_lent, b_lens, b_abs, b_inti, b_intb, b_tl, b_isb, b_isl, b_ist, b_isi, b_isbi, l_nx, l_ct, l_bk, l_rt, slot_l, slot_k, slot_d, Option.bind_some, Option.bind_none, List.getElem?_cons_zero, List.getElem?_cons_succ, List.set_cons_zero, List.set_cons_succ, at0, at1, at2, isLst, isOwn, true_and, and_true, Bool.not_true, Bool.not_false, decide_true, decide_false, o_ite, o_iteP, p64, p50, p40, p11, p11b, p12, p6, dk2, dk3, dk4, dk5, dk7, dk8, dk10, dk16, dk32, dk64, dk128, dk1024, dk2048, dk42, dk60, dk9, dk6, asg, setAll, wipeE, reduceIte, eq_self, ite_true, ite_false, b_sum, b_sum2, es_ee, nes_ee, es_ep, nes_ep, es_et, nes_et, es_pe, nes_pe, es_pp, nes_pp, es_pt, nes_pt, es_te, nes_te, es_tp, nes_tp, es_tt, nes_tt, o_last, la_l, dk0_int, dk0_str, nl_none, nl_int, nl_var, nl_bin, nl_neg, nl_idx, nl_bi, pt_t, pt_f, sl_l, sl_t, mul_li, b_isbl, view_d, Option.map_some, tyD, mtTy, view_o, tyD_dic]
    refine call0 (h12 _ _ _ _ (by omega) hm1) rfl ?_
    rintro _ ⟨g, rfl, g0, g1⟩
    simp only [startE, List.map_cons, List.map_nil, List.length_cons, List.length_nil, List.replicate, List.cons_append, List.nil_append, Nat.reduceAdd, Nat.reduceSub, w_ok, w_bind, w_ofO, o_some, o_map, o_bind, i_t, i_f, i_not, w_lit, w_glob, w_var, v_d, v_l, v_k, o_both, w_bin, w_neg, w_tru, w_not, w_and, w_or, w_cmp, w_chain, w_ife, w_call, w_bi, w_get2, w_mt, w_idx, w_slice, w_tuple, w_fr, ws_nil, ws_cons, wo_list, wo_listOf, wo_dict0, wo_dict1, wo_comp, wi_seq, wi_range1, wi_range2, wi_enum, wi_zip, wi_rev, wi_keys, w_lookf, w_lookt, w_frd, w_fro, f_l, f_k, w_fa0, w_fa1, o_view, o_viewd, o_views0, o_views1, uc_int, uc_bool, uc_str, uc_none, uc_list, uc_tuple, k_bk, k_ct, k_rt, w_nil, w_cons, w_set, w_own, w_unpack, w_par, w_put, w_append, w_insert, w_pop, w_popTo, w_onl, l_l, w_putE, p_l, p_k, w_expr, w_ret, w_retN, w_ite, w_wh, w_for, w_brk, w_cont, w_pass, a_ii, a_ss, a_ll, a_tt, s_ii, m_ii, d_ii, r_ii, t_none, t_bool, t_int, t_list, t_tuple, n_int, lt_ii, le_ii, gt_ii, ge_ii, eq_ii, ne_ii, eq_bb, ne_bb, is_bb, isn_bb, i_li, i_ti, sq_l, sq_t, sq_s, ll_l, as_l, as_t, ip_i, b_lenl, b_lent, b_lens, b_abs, b_inti, b_intb, b_tl, b_isb, b_isl, b_ist, b_isi, b_isbi, l_nx, l_ct, l_bk, l_rt, slot_l, slot_k, slot_d, Option.bind_some, Option.bind_none, List.getElem?_cons_zero, List.getElem?_cons_succ, List.set_cons_zero, List.set_cons_succ, at0, at1, at2, isLst, isOwn, true_and, and_true, Bool.not_true, Bool.not_false, decide_true, decide_false, o_ite, o_iteP, p64, p50, p40, p11, p11b, p12, p6, dk2, dk3, dk4, dk5, dk7, dk8, dk10, dk16, dk32, dk64, dk128, dk1024, dk2048, dk42, dk60, dk9, dk6, asg, setAll, wipeE, reduceIte, eq_self, ite_true, ite_false, b_sum, b_sum2, es_ee, nes_ee, es_ep, nes_ep, es_et, nes_et, es_pe, nes_pe, es_pp, nes_pp, es_pt, nes_pt, es_te, nes_te, es_tp, nes_tp, es_tt, nes_tt, o_last, la_l, dk0_int, dk0_str, nl_none, nl_int, nl_var, nl_bin, nl_neg, nl_idx, nl_bi, pt_t, pt_f, sl_l, sl_t, mul_li, b_isbl, view_d, Option.map_some, tyD, mtTy, view_o, tyD_dic]
    exact ⟨g, rfl, g0, g1⟩
  obtain ⟨gs, rfl, hg⟩ := hz.codes
  have gl := hg.length
  simp only [List.length_range] at gl
  have gp : ∀ g ∈ gs, 0 ≤ g ∧ g < (n.toNat : Int) := fun g hg' => by
    obtain ⟨k, _, h⟩ := hg.right g hg'
    omega
  simp only [startE, List.map_cons, List.map_nil, List.length_cons, List.length_nil, List.replicate, List.cons_append, List.nil_append, Nat.reduceAdd, Nat.reduceSub, w_ok, w_bind, w_ofO, o_some, o_map, o_bind, i_t, i_f, i_not, w_lit, w_glob, w_var, v_d, v_l, v_k, o_both, w_bin, w_neg, w_tru, w_not, w_and, w_or, w_cmp, w_chain, w_ife, w_call, w_bi, w_get2, w_mt, w_idx, w_slice, w_tuple, w_fr, ws_nil, ws_cons, wo_list, wo_listOf, wo_dict0, wo_dict1, wo_comp, wi_seq, wi_range1, wi_range2, wi_enum, wi_zip, wi_rev, wi_keys, w_lookf, w_lookt, w_frd, w_fro, f_l, f_k, w_fa0, w_fa1, o_view, o_viewd, o_views0, o_views1, uc_int, uc_bool, uc_str, uc_none, uc_list, uc_tuple, k_bk, k_ct, k_rt, w_nil, w_cons, w_set, w_own, w_unpack, w_par, w_put, w_append, w_insert, w_pop, w_popTo, w_onl, l_l, w_putE, p_l, p_k, w_expr, w_ret, w_retN, w_ite, w_wh, w_for, w_brk, w_cont, w_pass, a_ii, a_ss, a_ll, a_tt, s_ii, m_ii, d_ii, r_ii, t_none, t_bool, t_int, t_list, t_tuple, n_int, lt_ii, le_ii, gt_ii, ge_ii, eq_ii, ne_ii, eq_bb, ne_bb, is_bb, isn_bb, i_li, i_ti, sq_l, sq_t, sq_s, ll_l, as_l, as_t, ip_i, b_lenl, b_lent, b_lens, b_abs, b_inti, b_intb, b_tl, b_isb, b_isl, b_ist, b_isi, b_isbi, l_nx, l_ct, l_bk, l_rt, slot_l, slot_k, slot_d, Option.bind_some, Option.bind_none, List.getElem?_cons_zero, List.getElem?_cons_succ, List.set_cons_zero, List.set_cons_succ, at0, at1, at2, isLst, isOwn, true_and, and_true, Bool.not_true, Bool.not_false, decide_true, decide_false, o_ite, o_iteP, p64, p50, p40, p11, p11b, p12, p6, dk2, dk3, dk4, dk5, dk7, dk8, dk10, dk16, dk32, dk64, dk128, dk1024, dk2048, dk42, dk60, dk9, dk6, asg, setAll, wipeE, reduceIte, eq_self, ite_true, ite_false, b_sum, b_sum2, es_ee, nes_ee, es_ep, nes_ep, es_et, nes_et, es_pe, nes_pe, es_pp, nes_pp, es_pt, nes_pt, es_te, nes_te, es_tp, nes_tp, es_tt, nes_tt, o_last, la_l, dk0_int, dk0_str, nl_none, nl_int, nl_var, nl_bin, nl_neg, nl_idx, nl_bi, pt_t, pt_f, sl_l, sl_t, mul_li, b_isbl, view_d, Option.map_some, tyD, mtTy, view_o, tyD_dic]
  rw [k_nx]
  simp only [startE, List.map_cons, List.map_nil, List.length_cons, List.length_nil, List.replicate, List.cons_append, List.nil_append, Nat.reduceAdd, Nat.reduceSub, w_ok, w_bind, w_ofO, o_some, o_map, o_bind, i_t, i_f, i_d, i_not, w_lit, w_glob, w_var, v_d, v_l, v_k, o_both, w_bin, w_neg, w_tru, w_not, w_and, w_or, w_cmp, w_chain, w_ife, w_call, w_bi, w_get2, w_mt, w_idx, w_slice, w_tuple, w_fr, ws_nil, ws_cons, wo_list, wo_listOf, wo_dict0, wo_dict1, wo_comp, wi_seq, wi_range1, wi_range2, wi_enum, wi_zip, wi_rev, wi_keys, w_lookf, w_lookt, w_frd, w_fro, f_l, f_k, w_fa0, w_fa1, o_view, o_viewd, o_views0, o_views1, uc_int, uc_bool, uc_str, uc_none, uc_list, uc_tuple, k_nx, k_bk, k_ct, k_rt, w_nil, w_cons, w_set, w_own, w_unpack, w_par, w_put, w_append, w_insert, w_pop, w_popTo, w_onl, l_l, w_putE, p_l, p_k, w_expr, w_ret, w_retN, w_ite, w_wh, w_for, w_brk, w_cont, w_pass, a_ii, a_ss, a_ll, a_tt, s_ii, m_ii, d_ii, r_ii, t_none, t_bool, t_int, t_list, t_tuple, n_int, lt_ii, le_ii, gt_ii, ge_ii, eq_ii, ne_ii, eq_bb, ne_bb, is_bb, isn_bb, i_li, i_ti, sq_l, sq_t, sq_s, ll_l, as_l, as_t, ip_i, b_lenl, b_lent, b_lens, b_abs, b_inti, b_intb, b_tl, b_isb, b_isl, b_ist, b_isi, b_isbi, l_nx, l_ct, l_bk, l_rt, slot_l, slot_k, slot_d, Option.bind_some, Option.bind_none, List.getElem?_cons_zero, List.getElem?_cons_succ, List.set_cons_zero, List.set_cons_succ, at0, at1, at2, isLst, isOwn, true_and, and_true, Bool.not_true, Bool.not_false, decide_true, decide_false, o_ite, o_iteP, p64, p50, p40, p11, p11b, p12, p6, dk2, dk3, dk4, dk5, dk7, dk8, dk10, dk16, dk32, dk64, dk128, dk1024, dk2048, dk42, dk60, dk9, dk6, asg, setAll, wipeE, reduceIte, eq_self, ite_true, ite_false, b_sum, b_sum2, es_ee, nes_ee, es_ep, nes_ep, es_et, nes_et, es_pe, nes_pe, es_pp, nes_pp, es_pt, nes_pt, es_te, nes_te, es_tp, nes_tp, es_tt, nes_tt, o_last, la_l, dk0_int, dk0_str, nl_none, nl_int, nl_var, nl_bin, nl_neg, nl_idx, nl_bi, pt_t, pt_f, sl_l, sl_t, mul_li, b_isbl, view_d, Option.map_some, tyD, mtTy, view_o, tyD_dic ]
  refine ⟨by omega, fun h => ⟨by omega, .pick (1 + b / 64 % 2) gs, rfl, by have := q3 h; omega, gp⟩, fun h => ⟨r62_sm (by omega), w_cw1 (List.range q) (fun k : Nat => .int k) (fun _ z => ∃ w : Int, z = .int w ∧ 0 < w ∧ w < 2 ^ 40) (rd0 q) rfl (by simp; omega) (fun k hk => ?_) fun zs hz => ?_⟩⟩
  · have hk : k < q := List.mem_range.mp hk
    simp only [startE, List.map_cons, List.map_nil, List.length_cons, List.length_nil, List.replicate, List.cons_append, List.nil_append, Nat.reduceAdd, Nat.reduceSub, w_ok, w_bind, w_ofO, o_some, o_map, o_bind, i_t, i_f, i_not, w_lit, w_glob, w_var, v_d, v_l, v_k, o_both, w_bin, w_neg, w_tru, w_not, w_and, w_or, w_cmp, w_chain, w_ife, w_call, w_bi, w_get2, w_mt, w_idx, w_slice, w_tuple, w_fr, ws_nil, ws_cons, wo_list, wo_listOf, wo_dict0, wo_dict1, wo_comp, wi_seq, wi_range1, wi_range2, wi_enum, wi_zip, wi_rev, wi_keys, w_lookf, w_lookt, w_frd, w_fro, f_l, f_k, w_fa0, w_fa1, o_view, o_viewd, o_views0, o_views1, uc_int, uc_bool, uc_str, uc_none, uc_list, uc_tuple, k_bk, k_ct, k_rt, w_nil, w_cons, w_set, w_own, w_unpack, w_par, w_put, w_append, w_insert, w_pop, w_popTo, w_onl, l_l, w_putE, p_l, p_k, w_expr, w_ret, w_retN, w_ite, w_wh, w_for, w_brk, w_cont, w_pass, a_ii, a_ss, a_ll, a_tt, s_ii, m_ii, d_ii, r_ii, t_none, t_bool, t_int, t_list, t_tuple, n_int, lt_ii, le_ii, gt_ii, ge_ii, eq_ii, ne_ii, eq_bb, ne_bb, is_bb, isn_bb, i_li, i_ti, sq_l, sq_t, sq_s, ll_l, as_l, as_t, ip_i, b_lenl, b_lent, b_lens, b_abs, b_inti, b_intb, b_tl, b_isb, b_isl, b_ist, b_isi, b_isbi, l_nx, l_ct, l_bk, l_rt, slot_l, slot_k, slot_d, Option.bind_some, Option.bind_none, List.getElem?_cons_zero, List.getElem?_cons_succ, List.set_cons_zero, List.set_cons_succ, at0, at1, at2, isLst, isOwn, true_and, and_true, Bool.not_true, Bool.not_false, decide_true, decide_false, o_ite, o_iteP, p64, p50, p40, p11, p11b, p12, p6, dk2, dk3, dk4, dk5, dk7, dk8, dk10, dk16, dk32, dk64, dk128, dk1024, dk2048, dk42, dk60, dk9, dk6, asg, setAll, wipeE, reduceIte, eq_self, ite_true, ite_false, b_sum, b_sum2, es_ee, nes_ee, es_ep, nes_ep, es_et, nes_et, es_pe, nes_pe, es_pp, nes_pp, es_pt, nes_pt, es_te, nes_te, es_tp, nes_tp, es_tt, nes_tt, o_last, la_l, dk0_int, dk0_str, nl_none, nl_int, nl_var, nl_bin, nl_neg, nl_idx, nl_bi, pt_t, pt_f, sl_l, sl_t, mul_li, b_isbl, view_d, Option.map_some, tyD, mtTy, view_o, tyD_dic]
    refine ⟨divOk_sm (by omega) (by omega), by omega, ?_⟩
    refine at_three ⟨by omega, by omega⟩ ?_ ?_ ?_
    all_goals
      simp only [startE, List.map_cons, List.map_nil, List.length_cons, List.length_nil, List.replicate, List.cons_append, List.nil_append, Nat.reduceAdd, Nat.reduceSub, w_ok, w_bind, w_ofO, o_some, o_map, o_bind, i_t, i_f, i_not, w_lit, w_glob, w_var, v_d, v_l, v_k, o_both, w_bin, w_neg, w_tru, w_not, w_and, w_or, w_cmp, w_chain, w_ife, w_call, w_bi, w_get2, w_mt, w_idx, w_slice, w_tuple, w_fr, ws_nil, ws_cons, wo_list, wo_listOf, wo_dict0, wo_dict1, wo_comp, wi_seq, wi_range1, wi_range2, wi_enum, wi_zip, wi_rev, wi_keys, w_lookf, w_lookt, w_frd, w_fro, f_l, f_k, w_fa0, w_fa1, o_view, o_viewd, o_views0, o_views1, uc_int, uc_bool, uc_str, uc_none, uc_list, uc_tuple, k_bk, k_ct, k_rt, w_nil, w_cons, w_set, w_own, w_unpack, w_par, w_put, w_append, w_insert, w_pop, w_popTo, w_onl, l_l, w_putE, p_l, p_k, w_expr, w_ret, w_retN, w_ite, w_wh, w_for, w_brk, w_cont, w_pass, a_ii, a_ss, a_ll, a_tt, s_ii, m_ii, d_ii, r_ii, t_none, t_bool, t_int, t_list, t_tuple, n_int, lt_ii, le_ii, gt_ii, ge_ii, eq_ii, ne_ii, eq_bb, ne_bb, is_bb, isn_bb, i_li, i_ti, sq_l, sq_t, sq_s, ll_l, as_l, as_t, ip_i, b_lenl, b_lent, b_lens, b_abs, b_inti, b_intb, b_tl, b_isb, b_isl, b_ist, b_isi, b_isbi, l_nx, l_ct, l_bk, l_rt, slot_l, slot_k, slot_d, Option.bind_some, Option.bind_none, List.getElem?_cons_zero, List.getElem?_cons_succ, List.set_cons_zero, List.set_cons_succ, at0, at1, at2, isLst, isOwn, true_and, and_true, Bool.not_true, Bool.not_false, decide_true, decide_false, o_ite, o_iteP, p64, p50, p40, p11, p11b, p12, p6, dk2, dk3, dk4, dk5, dk7, dk8, dk10, dk16, dk32, dk64, dk128, dk1024, dk2048, dk42, dk60, dk9, dk6, asg, setAll, wipeE, reduceIte, eq_self, ite_true, ite_false, b_sum, b_sum2, es_ee, nes_ee, es_ep, nes_ep, es_et, nes_et, es_pe, nes_pe, es_pp, nes_pp, es_pt, nes_pt, es_te, nes_te, es_tp, nes_tp, es_tt, nes_tt, o_last, la_l, dk0_int, dk0_str, nl_none, nl_int, nl_var, nl_bin, nl_neg, nl_idx, nl_bi, pt_t, pt_f, sl_l, sl_t, mul_li, b_isbl, view_d, Option.map_some, tyD, mtTy, view_o, tyD_dic]
      exact ⟨by omega, _, rfl, by omega, by omega⟩
  obtain ⟨ws, rfl, hw⟩ := hz.codes
  have wl := hw.length
  simp only [List.length_range] at wl
  have wp : ∀ g ∈ ws, 0 < g ∧ g < (2 : Int) ^ 40 := fun g hg' => by
    obtain ⟨k, _, h⟩ := hw.right g hg'
    exact h
  simp only [startE, List.map_cons, List.map_nil, List.length_cons, List.length_nil, List.replicate, List.cons_append, List.nil_append, Nat.reduceAdd, Nat.reduceSub, w_ok, w_bind, w_ofO, o_some, o_map, o_bind, i_t, i_f, i_d, i_not, w_lit, w_glob, w_var, v_d, v_l, v_k, o_both, w_bin, w_neg, w_tru, w_not, w_and, w_or, w_cmp, w_chain, w_ife, w_call, w_bi, w_get2, w_mt, w_idx, w_slice, w_tuple, w_fr, ws_nil, ws_cons, wo_list, wo_listOf, wo_dict0, wo_dict1, wo_comp, wi_seq, wi_range1, wi_range2, wi_enum, wi_zip, wi_rev, wi_keys, w_lookf, w_lookt, w_frd, w_fro, f_l, f_k, w_fa0, w_fa1, o_view, o_viewd, o_views0, o_views1, uc_int, uc_bool, uc_str, uc_none, uc_list, uc_tuple, k_nx, k_bk, k_ct, k_rt, w_nil, w_cons, w_set, w_own, w_unpack, w_par, w_put, w_append, w_insert, w_pop, w_popTo, w_onl, l_l, w_putE, p_l, p_k, w_expr, w_ret, w_retN, w_ite, w_wh, w_for, w_brk, w_cont, w_pass, a_ii, a_ss, a_ll, a_tt, s_ii, m_ii, d_ii, r_ii, t_none, t_bool, t_int, t_list, t_tuple, n_int, lt_ii, le_ii, gt_ii, ge_ii, eq_ii, ne_ii, eq_bb, ne_bb, is_bb, isn_bb, i_li, i_ti, sq_l, sq_t, sq_s, ll_l, as_l, as_t, ip_i, b_lenl, b_lent, b_lens, b_abs, b_inti, b_intb, b_tl, b_isb, b_isl, b_ist, b_isi, b_isbi, l_nx, l_ct, l_bk, l_rt, slot_l, slot_k, slot_d, Option.bind_some, Option.bind_none, List.getElem?_cons_zero, List.getElem?_cons_succ, List.set_cons_zero, List.set_cons_succ, at0, at1, at2, isLst, isOwn, true_and, and_true, Bool.not_true, Bool.not_false, decide_true, decide_false, o_ite, o_iteP, p64, p50, p40, p11, p11b, p12, p6, dk2, dk3, dk4, dk5, dk7, dk8, dk10, dk16, dk32, dk64, dk128, dk1024, dk2048, dk42, dk60, dk9, dk6, asg, setAll, wipeE, reduceIte, eq_self, ite_true, ite_false, b_sum, b_sum2, es_ee, nes_ee, es_ep, nes_ep, es_et, nes_et, es_pe, nes_pe, es_pp, nes_pp, es_pt, nes_pt, es_te, nes_te, es_tp, nes_tp, es_tt, nes_tt, o_last, la_l, dk0_int, dk0_str, nl_none, nl_int, nl_var, nl_bin, nl_neg, nl_idx, nl_bi, pt_t, pt_f, sl_l, sl_t, mul_li, b_isbl, view_d, Option.map_some, tyD, mtTy, view_o, tyD_dic ]
  refine ⟨by omega, at_three ⟨by omega, by omega⟩ ?_ ?_ ?_⟩
  all_goals
    refine ⟨r62_sm (by omega), w_cw1 (List.range q) (fun k : Nat => .int k) (fun k z => ∃ p : Int × Int, z = pairD p ∧ 0 < p.1 ∧ p.1 < 2 ^ 40 ∧ 0 ≤ p.2 ∧ p.2 < (n.toNat : Int)) (rd0 q) rfl (by simp; omega) (fun k hk => ?_) fun zs hz => ?_⟩
    · have hk : k < q := List.mem_range.mp hk
      obtain ⟨w, hw1⟩ : ∃ w, ws[k]? = some w := ⟨_, List.getElem?_eq_getElem (by omega)⟩
      obtain ⟨g, hg1⟩ : ∃ g, gs[k]? = some g := ⟨_, List.getElem?_eq_getElem (by omega)⟩
      have a1 := wp w (List.mem_of_getElem? hw1)
      have a2 := gp g (List.mem_of_getElem? hg1)
      simp only [startE, List.map_cons, List.map_nil, List.length_cons, List.length_nil, List.replicate, List.cons_append, List.nil_append, Nat.reduceAdd, Nat.reduceSub, w_ok, w_bind, w_ofO, o_some, o_map, o_bind, i_t, i_f, i_not, w_lit, w_glob, w_var, v_d, v_l, v_k, o_both, w_bin, w_neg, w_tru, w_not, w_and, w_or, w_cmp, w_chain, w_ife, w_call, w_bi, w_get2, w_mt, w_idx, w_slice, w_tuple, w_fr, ws_nil, ws_cons, wo_list, wo_listOf, wo_dict0, wo_dict1, wo_comp, wi_seq, wi_range1, wi_range2, wi_enum, wi_zip, wi_rev, wi_keys, w_lookf, w_lookt, w_frd, w_fro, f_l, f_k, w_fa0, w_fa1, o_view, o_viewd, o_views0, o_views1, uc_int, uc_bool, uc_str, uc_none, uc_list, uc_tuple, k_bk, k_ct, k_rt, w_nil, w_cons, w_set, w_own, w_unpack, w_par, w_put, w_append, w_insert, w_pop, w_popTo, w_onl, l_l, w_putE, p_l, p_k, w_expr, w_ret, w_retN, w_ite, w_wh, w_for, w_brk, w_cont, w_pass, a_ii, a_ss, a_ll, a_tt, s_ii, m_ii, d_ii, r_ii, t_none, t_bool, t_int, t_list, t_tuple, n_int, lt_ii, le_ii, gt_ii, ge_ii, eq_ii, ne_ii, eq_bb, ne_bb, is_bb, isn_bb, i_li, i_ti, sq_l, sq_t, sq_s, ll_l, as_l, as_t, ip_i, b_lenl, b_lent, b_lens, b_abs, b_inti, b_intb, b_tl, b_isb, b_isl, b_ist, b_isi, b_isbi, l_nx, l_ct, l_bk, l_rt, slot_l, slot_k, slot_d, Option.bind_some, Option.bind_none, List.getElem?_cons_zero, List.getElem?_cons_succ, List.set_cons_zero, List.set_cons_succ, at0, at1, at2, isLst, isOwn, true_and, and_true, Bool.not_true, Bool.not_false, decide_true, decide_false, o_ite, o_iteP, p64, p50, p40, p11, p11b, p12, p6, dk2, dk3, dk4, dk5, dk7, dk8, dk10, dk16, dk32, dk64, dk128, dk1024, dk2048, dk42, dk60, dk9, dk6, asg, setAll, wipeE, reduceIte, eq_self, ite_true, ite_false, b_sum, b_sum2, es_ee, nes_ee, es_ep, nes_ep, es_et, nes_et, es_pe, nes_pe, es_pp, nes_pp, es_pt, nes_pt, es_te, nes_te, es_tp, nes_tp, es_tt, nes_tt, o_last, la_l, dk0_int, dk0_str, nl_none, nl_int, nl_var, nl_bin, nl_neg, nl_idx, nl_bi, pt_t, pt_f, sl_l, sl_t, mul_li, b_isbl, view_d, Option.map_some, tyD, mtTy, view_o, tyD_dic, at_nat, List.getElem?_map, hw1, hg1, Option.map_some]
      exact ⟨(w, g), rfl, a1.1, a1.2, a2.1, a2.2⟩
    obtain ⟨ps, rfl, hp⟩ := hz.codes
    have pl := hp.length
    simp only [List.length_range] at pl
    simp only [startE, List.map_cons, List.map_nil, List.length_cons, List.length_nil, List.replicate, List.cons_append, List.nil_append, Nat.reduceAdd, Nat.reduceSub, w_ok, w_bind, w_ofO, o_some, o_map, o_bind, i_t, i_f, i_not, w_lit, w_glob, w_var, v_d, v_l, v_k, o_both, w_bin, w_neg, w_tru, w_not, w_and, w_or, w_cmp, w_chain, w_ife, w_call, w_bi, w_get2, w_mt, w_idx, w_slice, w_tuple, w_fr, ws_nil, ws_cons, wo_list, wo_listOf, wo_dict0, wo_dict1, wo_comp, wi_seq, wi_range1, wi_range2, wi_enum, wi_zip, wi_rev, wi_keys, w_lookf, w_lookt, w_frd, w_fro, f_l, f_k, w_fa0, w_fa1, o_view, o_viewd, o_views0, o_views1, uc_int, uc_bool, uc_str, uc_none, uc_list, uc_tuple, k_bk, k_ct, k_rt, w_nil, w_cons, w_set, w_own, w_unpack, w_par, w_put, w_append, w_insert, w_pop, w_popTo, w_onl, l_l, w_putE, p_l, p_k, w_expr, w_ret, w_retN, w_ite, w_wh, w_for, w_brk, w_cont, w_pass, a_ii, a_ss, a_ll, a_tt, s_ii, m_ii, d_ii, r_ii, t_none, t_bool, t_int, t_list, t_tuple, n_int, lt_ii, le_ii, gt_ii, ge_ii, eq_ii, ne_ii, eq_bb, ne_bb, is_bb, isn_bb, i_li, i_ti, sq_l, sq_t, sq_s, ll_l, as_l, as_t, ip_i, b_lenl, b_lent, b_lens, b_abs, b_inti, b_intb, b_tl, b_isb, b_isl, b_ist, b_isi, b_isbi, l_nx, l_ct, l_bk, l_rt, slot_l, slot_k, slot_d, Option.bind_some, Option.bind_none, List.getElem?_cons_zero, List.getElem?_cons_succ, List.set_cons_zero, List.set_cons_succ, at0, at1, at2, isLst, isOwn, true_and, and_true, Bool.not_true, Bool.not_false, decide_true, decide_false, o_ite, o_iteP, p64, p50, p40, p11, p11b, p12, p6, dk2, dk3, dk4, dk5, dk7, dk8, dk10, dk16, dk32, dk64, dk128, dk1024, dk2048, dk42, dk60, dk9, dk6, asg, setAll, wipeE, reduceIte, eq_self, ite_true, ite_false, b_sum, b_sum2, es_ee, nes_ee, es_ep, nes_ep, es_et, nes_et, es_pe, nes_pe, es_pp, nes_pp, es_pt, nes_pt, es_te, nes_te, es_tp, nes_tp, es_tt, nes_tt, o_last, la_l, dk0_int, dk0_str, nl_none, nl_int, nl_var, nl_bin, nl_neg, nl_idx, nl_bi, pt_t, pt_f, sl_l, sl_t, mul_li, b_isbl, view_d, Option.map_some, tyD, mtTy, view_o, tyD_dic]
    refine ⟨.throw (_, 1) ps, rfl, fun p hp' => ?_, by omega, fun e => by rw [e, List.length_nil] at pl; omega⟩
    obtain ⟨k, _, h⟩ := hp.right p hp'
    exact h
end K71
end VI
set_option Elab.async false
set_option linter.all false
set_option autoImplicit false
set_option maxRecDepth 20000
namespace VI
namespace K71
open PySem AL
theorem board {Φ : Fns} {ns : List Int} {who : Nat} (hw : who ≤ 1) (h10 : Cell Φ ns)
    (h12 : ∀ c k n m : Int, c.natAbs.log2 ≤ 1100000 → n ≤ 100 → (0 ≤ k ∧ k < n) → (m = 0 ∨ m = 1) → R0 (Φ 12 [.int c, .int k, .int n, .int m]) fun x => ∃ p : Pl, x = p.enc ∧ OkP n.toNat p) :
    R0 (run Φ D13 [iL ns, .int who]) fun x => ∃ bs : List Pl, x = bd bs ∧ (1 ≤ bs.length ∧ bs.length ≤ 24) ∧ OkO bs := by
  have mm : (100 : Nat) ≤ most := by decide
  refine w_run ?_
  simp only [startE, List.map_cons, List.map_nil, List.length_cons, List.length_nil, List.replicate, List.cons_append, List.nil_append, Nat.reduceAdd, Nat.reduceSub, w_ok, w_bind, w_ofO, o_some, o_map, o_bind, i_t, i_f, i_not, w_lit, w_glob, w_var, v_d, v_l, v_k, o_both, w_bin, w_neg, w_tru, w_not, w_and, w_or, w_cmp, w_chain, w_ife, w_call, w_bi, w_get2, w_mt, w_idx, w_slice, w_tuple, w_fr, ws_nil, ws_cons, wo_list, wo_listOf, wo_dict0, wo_dict1, wo_comp, wi_seq, wi_range1, wi_range2, wi_enum, wi_zip, wi_rev, wi_keys, w_lookf, w_lookt, w_frd, w_fro, f_l, f_k, w_fa0, w_fa1, o_view, o_viewd, o_views0, o_views1, uc_int, uc_bool, uc_str, uc_none, uc_list, uc_tuple, k_bk, k_ct, k_rt, w_nil, w_cons, w_set, w_own, w_unpack, w_par, w_put, w_append, w_insert, w_pop, w_popTo, w_onl, l_l, w_putE, p_l, p_k, w_expr, w_ret, w_retN, w_ite, w_wh, w_for, w_brk, w_cont, w_pass, a_ii, a_ss, a_ll, a_tt, s_ii, m_ii, d_ii, r_ii, t_none, t_bool, t_int, t_list, t_tuple, n_int, lt_ii, le_ii, gt_ii, ge_ii, eq_ii, ne_ii, eq_bb, ne_bb, is_bb, isn_bb, i_li, i_ti, sq_l, sq_t, sq_s, ll_l, as_l, as_t, ip_i, b_lenl, b_lent, b_lens, b_abs, b_inti, b_intb, b_tl, b_isb, b_isl, b_ist, b_isi, b_isbi, l_nx, l_ct, l_bk, l_rt, slot_l, slot_k, slot_d, Option.bind_some, Option.bind_none, List.getElem?_cons_zero, List.getElem?_cons_succ, List.set_cons_zero, List.set_cons_succ, at0, at1, at2, isLst, isOwn, true_and, and_true, Bool.not_true, Bool.not_false, decide_true, decide_false, o_ite, o_iteP, p64, p50, p40, p11, p11b, p12, p6, dk2, dk3, dk4, dk5, dk7, dk8, dk10, dk16, dk32, dk64, dk128, dk1024, dk2048, dk42, dk60, dk9, dk6, asg, setAll, wipeE, reduceIte, eq_self, ite_true, ite_false, b_sum, b_sum2, es_ee, nes_ee, es_ep, nes_ep, es_et, nes_et, es_pe, nes_pe, es_pp, nes_pp, es_pt, nes_pt, es_te, nes_te, es_tp, nes_tp, es_tt, nes_tt, o_last, la_l, dk0_int, dk0_str, nl_none, nl_int, nl_var, nl_bin, nl_neg, nl_idx, nl_bi, pt_t, pt_f, sl_l, sl_t, mul_li, b_isbl, view_d, Option.map_some, tyD, mtTy, view_o, tyD_dic]
  refine call0 (h10 _ (by omega) (by omega)) rfl ?_
  rintro _ ⟨z, rfl, -⟩
  simp only [startE, List.map_cons, List.map_nil, List.length_cons, List.length_nil, List.replicate, List.cons_append, List.nil_append, Nat.reduceAdd, Nat.reduceSub, w_ok, w_bind, w_ofO, o_some, o_map, o_bind, i_t, i_f, i_not, w_lit, w_glob, w_var, v_d, v_l, v_k, o_both, w_bin, w_neg, w_tru, w_not, w_and, w_or, w_cmp, w_chain, w_ife, w_call, w_bi, w_get2, w_mt, w_idx, w_slice, w_tuple, w_fr, ws_nil, ws_cons, wo_list, wo_listOf, wo_dict0, wo_dict1, wo_comp, wi_seq, wi_range1, wi_range2, wi_enum, wi_zip, wi_rev, wi_keys, w_lookf, w_lookt, w_frd, w_fro, f_l, f_k, w_fa0, w_fa1, o_view, o_viewd, o_views0, o_views1, uc_int, uc_bool, uc_str, uc_none, uc_list, uc_tuple, k_bk, k_ct, k_rt, w_nil, w_cons, w_set, w_own, w_unpack, w_par, w_put, w_append, w_insert, w_pop, w_popTo, w_onl, l_l, w_putE, p_l, p_k, w_expr, w_ret, w_retN, w_ite, w_wh, w_for, w_brk, w_cont, w_pass, a_ii, a_ss, a_ll, a_tt, s_ii, m_ii, d_ii, r_ii, t_none, t_bool, t_int, t_list, t_tuple, n_int, lt_ii, le_ii, gt_ii, ge_ii, eq_ii, ne_ii, eq_bb, ne_bb, is_bb, isn_bb, i_li, i_ti, sq_l, sq_t, sq_s, ll_l, as_l, as_t, ip_i, b_lenl, b_lent, b_lens, b_abs, b_inti, b_intb, b_tl, b_isb, b_isl, b_ist, b_isi, b_isbi, l_nx, l_ct, l_bk, l_rt, slot_l, slot_k, slot_d, Option.bind_some, Option.bind_none, List.getElem?_cons_zero, List.getElem?_cons_succ, List.set_cons_zero, List.set_cons_succ, at0, at1, at2, isLst, isOwn, true_and, and_true, Bool.not_true, Bool.not_false, decide_true, decide_false, o_ite, o_iteP, p64, p50, p40, p11, p11b, p12, p6, dk2, dk3, dk4, dk5, dk7, dk8, dk10, dk16, dk32, dk64, dk128, dk1024, dk2048, dk42, dk60, dk9, dk6, asg, setAll, wipeE, reduceIte, eq_self, ite_true, ite_false, b_sum, b_sum2, es_ee, nes_ee, es_ep, nes_ep, es_et, nes_et, es_pe, nes_pe, es_pp, nes_pp, es_pt, nes_pt, es_te, nes_te, es_tp, nes_tp, es_tt, nes_tt, o_last, la_l, dk0_int, dk0_str, nl_none, nl_int, nl_var, nl_bin, nl_neg, nl_idx, nl_bi, pt_t, pt_f, sl_l, sl_t, mul_li, b_isbl, view_d, Option.map_some, tyD, mtTy, view_o, tyD_dic]
  refine ⟨by omega, ?_⟩
  rw [k_nx]
  refine cutn (fun ρ => ∃ n : Nat, ρ = [.d (iL ns), .d (.int who), .d (.int n), .unb, .unb, .unb, .unb, .unb, .unb] ∧ 1 ≤ n ∧ n ≤ 24) ?_ ?_
  · simp only [startE, List.map_cons, List.map_nil, List.length_cons, List.length_nil, List.replicate, List.cons_append, List.nil_append, Nat.reduceAdd, Nat.reduceSub, w_ok, w_bind, w_ofO, o_some, o_map, o_bind, i_t, i_f, i_not, w_lit, w_glob, w_var, v_d, v_l, v_k, o_both, w_bin, w_neg, w_tru, w_not, w_and, w_or, w_cmp, w_chain, w_ife, w_call, w_bi, w_get2, w_mt, w_idx, w_slice, w_tuple, w_fr, ws_nil, ws_cons, wo_list, wo_listOf, wo_dict0, wo_dict1, wo_comp, wi_seq, wi_range1, wi_range2, wi_enum, wi_zip, wi_rev, wi_keys, w_lookf, w_lookt, w_frd, w_fro, f_l, f_k, w_fa0, w_fa1, o_view, o_viewd, o_views0, o_views1, uc_int, uc_bool, uc_str, uc_none, uc_list, uc_tuple, k_bk, k_ct, k_rt, w_nil, w_cons, w_set, w_own, w_unpack, w_par, w_put, w_append, w_insert, w_pop, w_popTo, w_onl, l_l, w_putE, p_l, p_k, w_expr, w_ret, w_retN, w_ite, w_wh, w_for, w_brk, w_cont, w_pass, a_ii, a_ss, a_ll, a_tt, s_ii, m_ii, d_ii, r_ii, t_none, t_bool, t_int, t_list, t_tuple, n_int, lt_ii, le_ii, gt_ii, ge_ii, eq_ii, ne_ii, eq_bb, ne_bb, is_bb, isn_bb, i_li, i_ti, sq_l, sq_t, sq_s, ll_l, as_l, as_t, ip_i, b_lenl, b_lent, b_lens, b_abs, b_inti, b_intb, b_tl, b_isb, b_isl, b_ist, b_isi, b_isbi, l_nx, l_ct, l_bk, l_rt, slot_l, slot_k, slot_d, Option.bind_some, Option.bind_none, List.getElem?_cons_zero, List.getElem?_cons_succ, List.set_cons_zero, List.set_cons_succ, at0, at1, at2, isLst, isOwn, true_and, and_true, Bool.not_true, Bool.not_false, decide_true, decide_false, o_ite, o_iteP, p64, p50, p40, p11, p11b, p12, p6, dk2, dk3, dk4, dk5, dk7, dk8, dk10, dk16, dk32, dk64, dk128, dk1024, dk2048, dk42, dk60, dk9, dk6, asg, setAll, wipeE, reduceIte, eq_self, ite_true, ite_false, b_sum, b_sum2, es_ee, nes_ee, es_ep, nes_ep, es_et, nes_et, es_pe, nes_pe, es_pp, nes_pp, es_pt, nes_pt, es_te, nes_te, es_tp, nes_tp, es_tt, nes_tt, o_last, la_l, dk0_int, dk0_str, nl_none, nl_int, nl_var, nl_bin, nl_neg, nl_idx, nl_bi, pt_t, pt_f, sl_l, sl_t, mul_li, b_isbl, view_d, Option.map_some, tyD, mtTy, view_o, tyD_dic]
    refine call0 (h10 _ (by omega) (by omega)) rfl ?_
    rintro _ ⟨y, rfl, -⟩
    simp only [startE, List.map_cons, List.map_nil, List.length_cons, List.length_nil, List.replicate, List.cons_append, List.nil_append, Nat.reduceAdd, Nat.reduceSub, w_ok, w_bind, w_ofO, o_some, o_map, o_bind, i_t, i_f, i_not, w_lit, w_glob, w_var, v_d, v_l, v_k, o_both, w_bin, w_neg, w_tru, w_not, w_and, w_or, w_cmp, w_chain, w_ife, w_call, w_bi, w_get2, w_mt, w_idx, w_slice, w_tuple, w_fr, ws_nil, ws_cons, wo_list, wo_listOf, wo_dict0, wo_dict1, wo_comp, wi_seq, wi_range1, wi_range2, wi_enum, wi_zip, wi_rev, wi_keys, w_lookf, w_lookt, w_frd, w_fro, f_l, f_k, w_fa0, w_fa1, o_view, o_viewd, o_views0, o_views1, uc_int, uc_bool, uc_str, uc_none, uc_list, uc_tuple, k_bk, k_ct, k_rt, w_nil, w_cons, w_set, w_own, w_unpack, w_par, w_put, w_append, w_insert, w_pop, w_popTo, w_onl, l_l, w_putE, p_l, p_k, w_expr, w_ret, w_retN, w_ite, w_wh, w_for, w_brk, w_cont, w_pass, a_ii, a_ss, a_ll, a_tt, s_ii, m_ii, d_ii, r_ii, t_none, t_bool, t_int, t_list, t_tuple, n_int, lt_ii, le_ii, gt_ii, ge_ii, eq_ii, ne_ii, eq_bb, ne_bb, is_bb, isn_bb, i_li, i_ti, sq_l, sq_t, sq_s, ll_l, as_l, as_t, ip_i, b_lenl, b_lent, b_lens, b_abs, b_inti, b_intb, b_tl, b_isb, b_isl, b_ist, b_isi, b_isbi, l_nx, l_ct, l_bk, l_rt, slot_l, slot_k, slot_d, Option.bind_some, Option.bind_none, List.getElem?_cons_zero, List.getElem?_cons_succ, List.set_cons_zero, List.set_cons_succ, at0, at1, at2, isLst, isOwn, true_and, and_true, Bool.not_true, Bool.not_false, decide_true, decide_false, o_ite, o_iteP, p64, p50, p40, p11, p11b, p12, p6, dk2, dk3, dk4, dk5, dk7, dk8, dk10, dk16, dk32, dk64, dk128, dk1024, dk2048, dk42, dk60, dk9, dk6, asg, setAll, wipeE, reduceIte, eq_self, ite_true, ite_false, b_sum, b_sum2, es_ee, nes_ee, es_ep, nes_ep, es_et, nes_et, es_pe, nes_pe, es_pp, nes_pp, es_pt, nes_pt, es_te, nes_te, es_tp, nes_tp, es_tt, nes_tt, o_last, la_l, dk0_int, dk0_str, nl_none, nl_int, nl_var, nl_bin, nl_neg, nl_idx, nl_bi, pt_t, pt_f, sl_l, sl_t, mul_li, b_isbl, view_d, Option.map_some, tyD, mtTy, view_o, tyD_dic]
    refine ⟨by omega, WI_d (fun h => call0 (h10 _ (by omega) (by omega)) rfl ?_) fun h => ⟨(1 + z % 7).toNat, by rw [Int.toNat_of_nonneg (by omega)], by omega, by omega⟩⟩
    rintro _ ⟨y, rfl, -⟩
    simp only [startE, List.map_cons, List.map_nil, List.length_cons, List.length_nil, List.replicate, List.cons_append, List.nil_append, Nat.reduceAdd, Nat.reduceSub, w_ok, w_bind, w_ofO, o_some, o_map, o_bind, i_t, i_f, i_d, i_not, w_lit, w_glob, w_var, v_d, v_l, v_k, o_both, w_bin, w_neg, w_tru, w_not, w_and, w_or, w_cmp, w_chain, w_ife, w_call, w_bi, w_get2, w_mt, w_idx, w_slice, w_tuple, w_fr, ws_nil, ws_cons, wo_list, wo_listOf, wo_dict0, wo_dict1, wo_comp, wi_seq, wi_range1, wi_range2, wi_enum, wi_zip, wi_rev, wi_keys, w_lookf, w_lookt, w_frd, w_fro, f_l, f_k, w_fa0, w_fa1, o_view, o_viewd, o_views0, o_views1, uc_int, uc_bool, uc_str, uc_none, uc_list, uc_tuple, k_nx, k_bk, k_ct, k_rt, w_nil, w_cons, w_set, w_own, w_unpack, w_par, w_put, w_append, w_insert, w_pop, w_popTo, w_onl, l_l, w_putE, p_l, p_k, w_expr, w_ret, w_retN, w_ite, w_wh, w_for, w_brk, w_cont, w_pass, a_ii, a_ss, a_ll, a_tt, s_ii, m_ii, d_ii, r_ii, t_none, t_bool, t_int, t_list, t_tuple, n_int, lt_ii, le_ii, gt_ii, ge_ii, eq_ii, ne_ii, eq_bb, ne_bb, is_bb, isn_bb, i_li, i_ti, sq_l, sq_t, sq_s, ll_l, as_l, as_t, ip_i, b_lenl, b_lent, b_lens, b_abs, b_inti, b_intb, b_tl, b_isb, b_isl, b_ist, b_isi, b_isbi, l_nx, l_ct, l_bk, l_rt, slot_l, slot_k, slot_d, Option.bind_some, Option.bind_none, List.getElem?_cons_zero, List.getElem?_cons_succ, List.set_cons_zero, List.set_cons_succ, at0, at1, at2, isLst, isOwn, true_and, and_true, Bool.not_true, Bool.not_false, decide_true, decide_false, o_ite, o_iteP, p64, p50, p40, p11, p11b, p12, p6, dk2, dk3, dk4, dk5, dk7, dk8, dk10, dk16, dk32, dk64, dk128, dk1024, dk2048, dk42, dk60, dk9, dk6, asg, setAll, wipeE, reduceIte, eq_self, ite_true, ite_false, b_sum, b_sum2, es_ee, nes_ee, es_ep, nes_ep, es_et, nes_et, es_pe, nes_pe, es_pp, nes_pp, es_pt, nes_pt, es_te, nes_te, es_tp, nes_tp, es_tt, nes_tt, o_last, la_l, dk0_int, dk0_str, nl_none, nl_int, nl_var, nl_bin, nl_neg, nl_idx, nl_bi, pt_t, pt_f, sl_l, sl_t, mul_li, b_isbl, view_d, Option.map_some, tyD, mtTy, view_o, tyD_dic ]
    exact ⟨by omega, (1 + y / 42 % 24).toNat, by rw [Int.toNat_of_nonneg (by omega)], by omega, by omega⟩
  rintro _ ⟨n, rfl, n1, n2⟩
  simp only [startE, List.map_cons, List.map_nil, List.length_cons, List.length_nil, List.replicate, List.cons_append, List.nil_append, Nat.reduceAdd, Nat.reduceSub, w_ok, w_bind, w_ofO, o_some, o_map, o_bind, i_t, i_f, i_not, w_lit, w_glob, w_var, v_d, v_l, v_k, o_both, w_bin, w_neg, w_tru, w_not, w_and, w_or, w_cmp, w_chain, w_ife, w_call, w_bi, w_get2, w_mt, w_idx, w_slice, w_tuple, w_fr, ws_nil, ws_cons, wo_list, wo_listOf, wo_dict0, wo_dict1, wo_comp, wi_seq, wi_range1, wi_range2, wi_enum, wi_zip, wi_rev, wi_keys, w_lookf, w_lookt, w_frd, w_fro, f_l, f_k, w_fa0, w_fa1, o_view, o_viewd, o_views0, o_views1, uc_int, uc_bool, uc_str, uc_none, uc_list, uc_tuple, k_bk, k_ct, k_rt, w_nil, w_cons, w_set, w_own, w_unpack, w_par, w_put, w_append, w_insert, w_pop, w_popTo, w_onl, l_l, w_putE, p_l, p_k, w_expr, w_ret, w_retN, w_ite, w_wh, w_for, w_brk, w_cont, w_pass, a_ii, a_ss, a_ll, a_tt, s_ii, m_ii, d_ii, r_ii, t_none, t_bool, t_int, t_list, t_tuple, n_int, lt_ii, le_ii, gt_ii, ge_ii, eq_ii, ne_ii, eq_bb, ne_bb, is_bb, isn_bb, i_li, i_ti, sq_l, sq_t, sq_s, ll_l, as_l, as_t, ip_i, b_lenl, b_lent, b_lens, b_abs, b_inti, b_intb, b_tl, b_isb, b_isl, b_ist, b_isi, b_isbi, l_nx, l_ct, l_bk, l_rt, slot_l, slot_k, slot_d, Option.bind_some, Option.bind_none, List.getElem?_cons_zero, List.getElem?_cons_succ, List.set_cons_zero, List.set_cons_succ, at0, at1, at2, isLst, isOwn, true_and, and_true, Bool.not_true, Bool.not_false, decide_true, decide_false, o_ite, o_iteP, p64, p50, p40, p11, p11b, p12, p6, dk2, dk3, dk4, dk5, dk7, dk8, dk10, dk16, dk32, dk64, dk128, dk1024, dk2048, dk42, dk60, dk9, dk6, asg, setAll, wipeE, reduceIte, eq_self, ite_true, ite_false, b_sum, b_sum2, es_ee, nes_ee, es_ep, nes_ep, es_et, nes_et, es_pe, nes_pe, es_pp, nes_pp, es_pt, nes_pt, es_te, nes_te, es_tp, nes_tp, es_tt, nes_tt, o_last, la_l, dk0_int, dk0_str, nl_none, nl_int, nl_var, nl_bin, nl_neg, nl_idx, nl_bi, pt_t, pt_f, sl_l, sl_t, mul_li, b_isbl, view_d, Option.map_some, tyD, mtTy, view_o, tyD_dic]
  refine call0 (h10 _ (by omega) (by omega)) rfl ?_
  rintro _ ⟨y, rfl, -⟩
  simp only [startE, List.map_cons, List.map_nil, List.length_cons, List.length_nil, List.replicate, List.cons_append, List.nil_append, Nat.reduceAdd, Nat.reduceSub, w_ok, w_bind, w_ofO, o_some, o_map, o_bind, i_t, i_f, i_not, w_lit, w_glob, w_var, v_d, v_l, v_k, o_both, w_bin, w_neg, w_tru, w_not, w_and, w_or, w_cmp, w_chain, w_ife, w_call, w_bi, w_get2, w_mt, w_idx, w_slice, w_tuple, w_fr, ws_nil, ws_cons, wo_list, wo_listOf, wo_dict0, wo_dict1, wo_comp, wi_seq, wi_range1, wi_range2, wi_enum, wi_zip, wi_rev, wi_keys, w_lookf, w_lookt, w_frd, w_fro, f_l, f_k, w_fa0, w_fa1, o_view, o_viewd, o_views0, o_views1, uc_int, uc_bool, uc_str, uc_none, uc_list, uc_tuple, k_bk, k_ct, k_rt, w_nil, w_cons, w_set, w_own, w_unpack, w_par, w_put, w_append, w_insert, w_pop, w_popTo, w_onl, l_l, w_putE, p_l, p_k, w_expr, w_ret, w_retN, w_ite, w_wh, w_for, w_brk, w_cont, w_pass, a_ii, a_ss, a_ll, a_tt, s_ii, m_ii, d_ii, r_ii, t_none, t_bool, t_int, t_list, t_tuple, n_int, lt_ii, le_ii, gt_ii, ge_ii, eq_ii, ne_ii, eq_bb, ne_bb, is_bb, isn_bb, i_li, i_ti, sq_l, sq_t, sq_s, ll_l, as_l, as_t, ip_i, b_lenl, b_lent, b_lens, b_abs, b_inti, b_intb, b_tl, b_isb, b_isl, b_ist, b_isi, b_isbi, l_nx, l_ct, l_bk, l_rt, slot_l, slot_k, slot_d, Option.bind_some, Option.bind_none, List.getElem?_cons_zero, List.getElem?_cons_succ, List.set_cons_zero, List.set_cons_succ, at0, at1, at2, isLst, isOwn, true_and, and_true, Bool.not_true, Bool.not_false, decide_true, decide_false, o_ite, o_iteP, p64, p50, p40, p11, p11b, p12, p6, dk2, dk3, dk4, dk5, dk7, dk8, dk10, dk16, dk32, dk64, dk128, dk1024, dk2048, dk42, dk60, dk9, dk6, asg, setAll, wipeE, reduceIte, eq_self, ite_true, ite_false, b_sum, b_sum2, es_ee, nes_ee, es_ep, nes_ep, es_et, nes_et, es_pe, nes_pe, es_pp, nes_pp, es_pt, nes_pt, es_te, nes_te, es_tp, nes_tp, es_tt, nes_tt, o_last, la_l, dk0_int, dk0_str, nl_none, nl_int, nl_var, nl_bin, nl_neg, nl_idx, nl_bi, pt_t, pt_f, sl_l, sl_t, mul_li, b_isbl, view_d, Option.map_some, tyD, mtTy, view_o, tyD_dic]
  refine ⟨divOk_sm (by omega) (by omega), by omega, ?_⟩
  rw [k_nx]
  obtain ⟨m, hm⟩ : ∃ m : Int, y / (1 + (who : Int)) % 2 = m := ⟨_, rfl⟩
  have hm2 : m = 0 ∨ m = 1 := by omega
  rw [hm]
  clear hm
  simp only [startE, List.map_cons, List.map_nil, List.length_cons, List.length_nil, List.replicate, List.cons_append, List.nil_append, Nat.reduceAdd, Nat.reduceSub, w_ok, w_bind, w_ofO, o_some, o_map, o_bind, i_t, i_f, i_not, w_lit, w_glob, w_var, v_d, v_l, v_k, o_both, w_bin, w_neg, w_tru, w_not, w_and, w_or, w_cmp, w_chain, w_ife, w_call, w_bi, w_get2, w_mt, w_idx, w_slice, w_tuple, w_fr, ws_nil, ws_cons, wo_list, wo_listOf, wo_dict0, wo_dict1, wo_comp, wi_seq, wi_range1, wi_range2, wi_enum, wi_zip, wi_rev, wi_keys, w_lookf, w_lookt, w_frd, w_fro, f_l, f_k, w_fa0, w_fa1, o_view, o_viewd, o_views0, o_views1, uc_int, uc_bool, uc_str, uc_none, uc_list, uc_tuple, k_bk, k_ct, k_rt, w_nil, w_cons, w_set, w_own, w_unpack, w_par, w_put, w_append, w_insert, w_pop, w_popTo, w_onl, l_l, w_putE, p_l, p_k, w_expr, w_ret, w_retN, w_ite, w_wh, w_for, w_brk, w_cont, w_pass, a_ii, a_ss, a_ll, a_tt, s_ii, m_ii, d_ii, r_ii, t_none, t_bool, t_int, t_list, t_tuple, n_int, lt_ii, le_ii, gt_ii, ge_ii, eq_ii, ne_ii, eq_bb, ne_bb, is_bb, isn_bb, i_li, i_ti, sq_l, sq_t, sq_s, ll_l, as_l, as_t, ip_i, b_lenl, b_lent, b_lens, b_abs, b_inti, b_intb, b_tl, b_isb, b_isl, b_ist, b_isi, b_isbi, l_nx, l_ct, l_bk, l_rt, slot_l, slot_k, slot_d, Option.bind_some, Option.bind_none, List.getElem?_cons_zero, List.getElem?_cons_succ, List.set_cons_zero, List.set_cons_succ, at0, at1, at2, isLst, isOwn, true_and, and_true, Bool.not_true, Bool.not_false, decide_true, decide_false, o_ite, o_iteP, p64, p50, p40, p11, p11b, p12, p6, dk2, dk3, dk4, dk5, dk7, dk8, dk10, dk16, dk32, dk64, dk128, dk1024, dk2048, dk42, dk60, dk9, dk6, asg, setAll, wipeE, reduceIte, eq_self, ite_true, ite_false, b_sum, b_sum2, es_ee, nes_ee, es_ep, nes_ep, es_et, nes_et, es_pe, nes_pe, es_pp, nes_pp, es_pt, nes_pt, es_te, nes_te, es_tp, nes_tp, es_tt, nes_tt, o_last, la_l, dk0_int, dk0_str, nl_none, nl_int, nl_var, nl_bin, nl_neg, nl_idx, nl_bi, pt_t, pt_f, sl_l, sl_t, mul_li, b_isbl, view_d, Option.map_some, tyD, mtTy, view_o, tyD_dic]
  refine ⟨r62_sm (by omega), w_cw1 (List.range n) (fun k : Nat => .int k) (fun k z => ∃ p : Pl, z = p.enc ∧ OkP n p) (rd0 n) rfl (by simp; omega) (fun k hk => ?_) fun zs hz => ?_⟩
  · have hk : k < n := List.mem_range.mp hk
    simp only [startE, List.map_cons, List.map_nil, List.length_cons, List.length_nil, List.replicate, List.cons_append, List.nil_append, Nat.reduceAdd, Nat.reduceSub, w_ok, w_bind, w_ofO, o_some, o_map, o_bind, i_t, i_f, i_not, w_lit, w_glob, w_var, v_d, v_l, v_k, o_both, w_bin, w_neg, w_tru, w_not, w_and, w_or, w_cmp, w_chain, w_ife, w_call, w_bi, w_get2, w_mt, w_idx, w_slice, w_tuple, w_fr, ws_nil, ws_cons, wo_list, wo_listOf, wo_dict0, wo_dict1, wo_comp, wi_seq, wi_range1, wi_range2, wi_enum, wi_zip, wi_rev, wi_keys, w_lookf, w_lookt, w_frd, w_fro, f_l, f_k, w_fa0, w_fa1, o_view, o_viewd, o_views0, o_views1, uc_int, uc_bool, uc_str, uc_none, uc_list, uc_tuple, k_bk, k_ct, k_rt, w_nil, w_cons, w_set, w_own, w_unpack, w_par, w_put, w_append, w_insert, w_pop, w_popTo, w_onl, l_l, w_putE, p_l, p_k, w_expr, w_ret, w_retN, w_ite, w_wh, w_for, w_brk, w_cont, w_pass, a_ii, a_ss, a_ll, a_tt, s_ii, m_ii, d_ii, r_ii, t_none, t_bool, t_int, t_list, t_tuple, n_int, lt_ii, le_ii, gt_ii, ge_ii, eq_ii, ne_ii, eq_bb, ne_bb, is_bb, isn_bb, i_li, i_ti, sq_l, sq_t, sq_s, ll_l, as_l, as_t, ip_i, b_lenl, b_lent, b_lens, b_abs, b_inti, b_intb, b_tl, b_isb, b_isl, b_ist, b_isi, b_isbi, l_nx, l_ct, l_bk, l_rt, slot_l, slot_k, slot_d, Option.bind_some, Option.bind_none, List.getElem?_cons_zero, List.getElem?_cons_succ, List.set_cons_zero, List.set_cons_succ, at0, at1, at2, isLst, isOwn, true_and, and_true, Bool.not_true, Bool.not_false, decide_true, decide_false, o_ite, o_iteP, p64, p50, p40, p11, p11b, p12, p6, dk2, dk3, dk4, dk5, dk7, dk8, dk10, dk16, dk32, dk64, dk128, dk1024, dk2048, dk42, dk60, dk9, dk6, asg, setAll, wipeE, reduceIte, eq_self, ite_true, ite_false, b_sum, b_sum2, es_ee, nes_ee, es_ep, nes_ep, es_et, nes_et, es_pe, nes_pe, es_pp, nes_pp, es_pt, nes_pt, es_te, nes_te, es_tp, nes_tp, es_tt, nes_tt, o_last, la_l, dk0_int, dk0_str, nl_none, nl_int, nl_var, nl_bin, nl_neg, nl_idx, nl_bi, pt_t, pt_f, sl_l, sl_t, mul_li, b_isbl, view_d, Option.map_some, tyD, mtTy, view_o, tyD_dic]
    refine ⟨mulOk_sm (by omega) (by omega) (by omega) (by omega), call0 (h10 _ (by omega) (by omega)) rfl ?_⟩
    rintro _ ⟨z, rfl, hz⟩
    have hkk : ((k : Int) * k) ≤ 100 * 100 := by
      have : k * k ≤ 100 * 100 := Nat.mul_le_mul (by omega) (by omega)
      exact_mod_cast this
    have hkn : (0 : Int) ≤ (k : Int) * k := by exact_mod_cast Nat.zero_le (k * k)
    simp only [startE, List.map_cons, List.map_nil, List.length_cons, List.length_nil, List.replicate, List.cons_append, List.nil_append, Nat.reduceAdd, Nat.reduceSub, w_ok, w_bind, w_ofO, o_some, o_map, o_bind, i_t, i_f, i_not, w_lit, w_glob, w_var, v_d, v_l, v_k, o_both, w_bin, w_neg, w_tru, w_not, w_and, w_or, w_cmp, w_chain, w_ife, w_call, w_bi, w_get2, w_mt, w_idx, w_slice, w_tuple, w_fr, ws_nil, ws_cons, wo_list, wo_listOf, wo_dict0, wo_dict1, wo_comp, wi_seq, wi_range1, wi_range2, wi_enum, wi_zip, wi_rev, wi_keys, w_lookf, w_lookt, w_frd, w_fro, f_l, f_k, w_fa0, w_fa1, o_view, o_viewd, o_views0, o_views1, uc_int, uc_bool, uc_str, uc_none, uc_list, uc_tuple, k_bk, k_ct, k_rt, w_nil, w_cons, w_set, w_own, w_unpack, w_par, w_put, w_append, w_insert, w_pop, w_popTo, w_onl, l_l, w_putE, p_l, p_k, w_expr, w_ret, w_retN, w_ite, w_wh, w_for, w_brk, w_cont, w_pass, a_ii, a_ss, a_ll, a_tt, s_ii, m_ii, d_ii, r_ii, t_none, t_bool, t_int, t_list, t_tuple, n_int, lt_ii, le_ii, gt_ii, ge_ii, eq_ii, ne_ii, eq_bb, ne_bb, is_bb, isn_bb, i_li, i_ti, sq_l, sq_t, sq_s, ll_l, as_l, as_t, ip_i, b_lenl, b_lent, b_lens, b_abs, b_inti, b_intb, b_tl, b_isb, b_isl, b_ist, b_isi, b_isbi, l_nx, l_ct, l_bk, l_rt, slot_l, slot_k, slot_d, Option.bind_some, Option.bind_none, List.getElem?_cons_zero, List.getElem?_cons_succ, List.set_cons_zero, List.set_cons_succ, at0, at1, at2, isLst, isOwn, true_and, and_true, Bool.not_true, Bool.not_false, decide_true, decide_false, o_ite, o_iteP, p64, p50, p40, p11, p11b, p12, p6, dk2, dk3, dk4, dk5, dk7, dk8, dk10, dk16, dk32, dk64, dk128, dk1024, dk2048, dk42, dk60, dk9, dk6, asg, setAll, wipeE, reduceIte, eq_self, ite_true, ite_false, b_sum, b_sum2, es_ee, nes_ee, es_ep, nes_ep, es_et, nes_et, es_pe, nes_pe, es_pp, nes_pp, es_pt, nes_pt, es_te, nes_te, es_tp, nes_tp, es_tt, nes_tt, o_last, la_l, dk0_int, dk0_str, nl_none, nl_int, nl_var, nl_bin, nl_neg, nl_idx, nl_bi, pt_t, pt_f, sl_l, sl_t, mul_li, b_isbl, view_d, Option.map_some, tyD, mtTy, view_o, tyD_dic]
    refine ⟨mulOk_sm (by omega) (by omega) (by omega) (by omega), mulOk_of (by omega) (log_sm (by omega) (by omega)), call0 (h12 _ k n m (lgm hz (by omega) (by omega) (by omega) (by omega)) (by omega) (by omega) hm2) rfl ?_⟩
    rintro _ ⟨p, rfl, hp⟩
    simp only [startE, List.map_cons, List.map_nil, List.length_cons, List.length_nil, List.replicate, List.cons_append, List.nil_append, Nat.reduceAdd, Nat.reduceSub, w_ok, w_bind, w_ofO, o_some, o_map, o_bind, i_t, i_f, i_not, w_lit, w_glob, w_var, v_d, v_l, v_k, o_both, w_bin, w_neg, w_tru, w_not, w_and, w_or, w_cmp, w_chain, w_ife, w_call, w_bi, w_get2, w_mt, w_idx, w_slice, w_tuple, w_fr, ws_nil, ws_cons, wo_list, wo_listOf, wo_dict0, wo_dict1, wo_comp, wi_seq, wi_range1, wi_range2, wi_enum, wi_zip, wi_rev, wi_keys, w_lookf, w_lookt, w_frd, w_fro, f_l, f_k, w_fa0, w_fa1, o_view, o_viewd, o_views0, o_views1, uc_int, uc_bool, uc_str, uc_none, uc_list, uc_tuple, k_bk, k_ct, k_rt, w_nil, w_cons, w_set, w_own, w_unpack, w_par, w_put, w_append, w_insert, w_pop, w_popTo, w_onl, l_l, w_putE, p_l, p_k, w_expr, w_ret, w_retN, w_ite, w_wh, w_for, w_brk, w_cont, w_pass, a_ii, a_ss, a_ll, a_tt, s_ii, m_ii, d_ii, r_ii, t_none, t_bool, t_int, t_list, t_tuple, n_int, lt_ii, le_ii, gt_ii, ge_ii, eq_ii, ne_ii, eq_bb, ne_bb, is_bb, isn_bb, i_li, i_ti, sq_l, sq_t, sq_s, ll_l, as_l, as_t, ip_i, b_lenl, b_lent, b_lens, b_abs, b_inti, b_intb, b_tl, b_isb, b_isl, b_ist, b_isi, b_isbi, l_nx, l_ct, l_bk, l_rt, slot_l, slot_k, slot_d, Option.bind_some, Option.bind_none, List.getElem?_cons_zero, List.getElem?_cons_succ, List.set_cons_zero, List.set_cons_succ, at0, at1, at2, isLst, isOwn, true_and, and_true, Bool.not_true, Bool.not_false, decide_true, decide_false, o_ite, o_iteP, p64, p50, p40, p11, p11b, p12, p6, dk2, dk3, dk4, dk5, dk7, dk8, dk10, dk16, dk32, dk64, dk128, dk1024, dk2048, dk42, dk60, dk9, dk6, asg, setAll, wipeE, reduceIte, eq_self, ite_true, ite_false, b_sum, b_sum2, es_ee, nes_ee, es_ep, nes_ep, es_et, nes_et, es_pe, nes_pe, es_pp, nes_pp, es_pt, nes_pt, es_te, nes_te, es_tp, nes_tp, es_tt, nes_tt, o_last, la_l, dk0_int, dk0_str, nl_none, nl_int, nl_var, nl_bin, nl_neg, nl_idx, nl_bi, pt_t, pt_f, sl_l, sl_t, mul_li, b_isbl, view_d, Option.map_some, tyD, mtTy, view_o, tyD_dic]
    exact ⟨p, rfl, by simpa using hp⟩
  obtain ⟨bs, rfl, hb⟩ := hz.codes
  have bl := hb.length
  simp only [List.length_range] at bl
  have ob : ∀ p ∈ bs, OkP n p := fun p hp => by
    obtain ⟨k, _, h⟩ := hb.right p hp
    exact h
  clear hz hb
  simp only [startE, List.map_cons, List.map_nil, List.length_cons, List.length_nil, List.replicate, List.cons_append, List.nil_append, Nat.reduceAdd, Nat.reduceSub, w_ok, w_bind, w_ofO, o_some, o_map, o_bind, i_t, i_f, i_not, w_lit, w_glob, w_var, v_d, v_l, v_k, o_both, w_bin, w_neg, w_tru, w_not, w_and, w_or, w_cmp, w_chain, w_ife, w_call, w_bi, w_get2, w_mt, w_idx, w_slice, w_tuple, w_fr, ws_nil, ws_cons, wo_list, wo_listOf, wo_dict0, wo_dict1, wo_comp, wi_seq, wi_range1, wi_range2, wi_enum, wi_zip, wi_rev, wi_keys, w_lookf, w_lookt, w_frd, w_fro, f_l, f_k, w_fa0, w_fa1, o_view, o_viewd, o_views0, o_views1, uc_int, uc_bool, uc_str, uc_none, uc_list, uc_tuple, k_bk, k_ct, k_rt, w_nil, w_cons, w_set, w_own, w_unpack, w_par, w_put, w_append, w_insert, w_pop, w_popTo, w_onl, l_l, w_putE, p_l, p_k, w_expr, w_ret, w_retN, w_ite, w_wh, w_for, w_brk, w_cont, w_pass, a_ii, a_ss, a_ll, a_tt, s_ii, m_ii, d_ii, r_ii, t_none, t_bool, t_int, t_list, t_tuple, n_int, lt_ii, le_ii, gt_ii, ge_ii, eq_ii, ne_ii, eq_bb, ne_bb, is_bb, isn_bb, i_li, i_ti, sq_l, sq_t, sq_s, ll_l, as_l, as_t, ip_i, b_lenl, b_lent, b_lens, b_abs, b_inti, b_intb, b_tl, b_isb, b_isl, b_ist, b_isi, b_isbi, l_nx, l_ct, l_bk, l_rt, slot_l, slot_k, slot_d, Option.bind_some, Option.bind_none, List.getElem?_cons_zero, List.getElem?_cons_succ, List.set_cons_zero, List.set_cons_succ, at0, at1, at2, isLst, isOwn, true_and, and_true, Bool.not_true, Bool.not_false, decide_true, decide_false, o_ite, o_iteP, p64, p50, p40, p11, p11b, p12, p6, dk2, dk3, dk4, dk5, dk7, dk8, dk10, dk16, dk32, dk64, dk128, dk1024, dk2048, dk42, dk60, dk9, dk6, asg, setAll, wipeE, reduceIte, eq_self, ite_true, ite_false, b_sum, b_sum2, es_ee, nes_ee, es_ep, nes_ep, es_et, nes_et, es_pe, nes_pe, es_pp, nes_pp, es_pt, nes_pt, es_te, nes_te, es_tp, nes_tp, es_tt, nes_tt, o_last, la_l, dk0_int, dk0_str, nl_none, nl_int, nl_var, nl_bin, nl_neg, nl_idx, nl_bi, pt_t, pt_f, sl_l, sl_t, mul_li, b_isbl, view_d, Option.map_some, tyD, mtTy, view_o, tyD_dic]
  rw [k_nx]
  have ok1 : ∀ (v : Int × Int) (w g : Int), 1 ≤ w → w ≤ 2000000 → 0 ≤ g → g < n → OkP n (.throw v [(w, g)]) := fun v w g h1 h2 h3 h4 => ⟨fun p hp => by
    rw [List.mem_singleton] at hp
    subst hp
    exact ⟨by omega, by show w < 2 ^ 40; omega, h3, h4⟩, by simp, by simp⟩
  refine cutn (fun ρ => ∃ (bs : List Pl) (s t : SV), ρ = [.d (iL ns), .d (.int who), .d (.int n), .d (.int m), s, t, .unb, .unb, .unb] ∧ (s = .lst (bs.map Pl.enc) ∨ s = .d (bd bs)) ∧ bs.length = n ∧ ∀ p ∈ bs, OkP n p) ?_ ?_
  · simp only [startE, List.map_cons, List.map_nil, List.length_cons, List.length_nil, List.replicate, List.cons_append, List.nil_append, Nat.reduceAdd, Nat.reduceSub, w_ok, w_bind, w_ofO, o_some, o_map, o_bind, i_t, i_f, i_not, w_lit, w_glob, w_var, v_d, v_l, v_k, o_both, w_bin, w_neg, w_tru, w_not, w_and, w_or, w_cmp, w_chain, w_ife, w_call, w_bi, w_get2, w_mt, w_idx, w_slice, w_tuple, w_fr, ws_nil, ws_cons, wo_list, wo_listOf, wo_dict0, wo_dict1, wo_comp, wi_seq, wi_range1, wi_range2, wi_enum, wi_zip, wi_rev, wi_keys, w_lookf, w_lookt, w_frd, w_fro, f_l, f_k, w_fa0, w_fa1, o_view, o_viewd, o_views0, o_views1, uc_int, uc_bool, uc_str, uc_none, uc_list, uc_tuple, k_bk, k_ct, k_rt, w_nil, w_cons, w_set, w_own, w_unpack, w_par, w_put, w_append, w_insert, w_pop, w_popTo, w_onl, l_l, w_putE, p_l, p_k, w_expr, w_ret, w_retN, w_ite, w_wh, w_for, w_brk, w_cont, w_pass, a_ii, a_ss, a_ll, a_tt, s_ii, m_ii, d_ii, r_ii, t_none, t_bool, t_int, t_list, t_tuple, n_int, lt_ii, le_ii, gt_ii, ge_ii, eq_ii, ne_ii, eq_bb, ne_bb, is_bb, isn_bb, i_li, i_ti, sq_l, sq_t, sq_s, ll_l, as_l, as_t, ip_i, b_lenl, b_lent, b_lens, b_abs, b_inti, b_intb, b_tl, b_isb, b_isl, b_ist, b_isi, b_isbi, l_nx, l_ct, l_bk, l_rt, slot_l, slot_k, slot_d, Option.bind_some, Option.bind_none, List.getElem?_cons_zero, List.getElem?_cons_succ, List.set_cons_zero, List.set_cons_succ, at0, at1, at2, isLst, isOwn, true_and, and_true, Bool.not_true, Bool.not_false, decide_true, decide_false, o_ite, o_iteP, p64, p50, p40, p11, p11b, p12, p6, dk2, dk3, dk4, dk5, dk7, dk8, dk10, dk16, dk32, dk64, dk128, dk1024, dk2048, dk42, dk60, dk9, dk6, asg, setAll, wipeE, reduceIte, eq_self, ite_true, ite_false, b_sum, b_sum2, es_ee, nes_ee, es_ep, nes_ep, es_et, nes_et, es_pe, nes_pe, es_pp, nes_pp, es_pt, nes_pt, es_te, nes_te, es_tp, nes_tp, es_tt, nes_tt, o_last, la_l, dk0_int, dk0_str, nl_none, nl_int, nl_var, nl_bin, nl_neg, nl_idx, nl_bi, pt_t, pt_f, sl_l, sl_t, mul_li, b_isbl, view_d, Option.map_some, tyD, mtTy, view_o, tyD_dic]
    refine call0 (h10 _ (by omega) (by omega)) rfl ?_
    rintro _ ⟨y, rfl, -⟩
    simp only [startE, List.map_cons, List.map_nil, List.length_cons, List.length_nil, List.replicate, List.cons_append, List.nil_append, Nat.reduceAdd, Nat.reduceSub, w_ok, w_bind, w_ofO, o_some, o_map, o_bind, i_t, i_f, i_not, w_lit, w_glob, w_var, v_d, v_l, v_k, o_both, w_bin, w_neg, w_tru, w_not, w_and, w_or, w_cmp, w_chain, w_ife, w_call, w_bi, w_get2, w_mt, w_idx, w_slice, w_tuple, w_fr, ws_nil, ws_cons, wo_list, wo_listOf, wo_dict0, wo_dict1, wo_comp, wi_seq, wi_range1, wi_range2, wi_enum, wi_zip, wi_rev, wi_keys, w_lookf, w_lookt, w_frd, w_fro, f_l, f_k, w_fa0, w_fa1, o_view, o_viewd, o_views0, o_views1, uc_int, uc_bool, uc_str, uc_none, uc_list, uc_tuple, k_bk, k_ct, k_rt, w_nil, w_cons, w_set, w_own, w_unpack, w_par, w_put, w_append, w_insert, w_pop, w_popTo, w_onl, l_l, w_putE, p_l, p_k, w_expr, w_ret, w_retN, w_ite, w_wh, w_for, w_brk, w_cont, w_pass, a_ii, a_ss, a_ll, a_tt, s_ii, m_ii, d_ii, r_ii, t_none, t_bool, t_int, t_list, t_tuple, n_int, lt_ii, le_ii, gt_ii, ge_ii, eq_ii, ne_ii, eq_bb, ne_bb, is_bb, isn_bb, i_li, i_ti, sq_l, sq_t, sq_s, ll_l, as_l, as_t, ip_i, b_lenl, b_lent, b_lens, b_abs, b_inti, b_intb, b_tl, b_isb, b_isl, b_ist, b_isi, b_isbi, l_nx, l_ct, l_bk, l_rt, slot_l, slot_k, slot_d, Option.bind_some, Option.bind_none, List.getElem?_cons_zero, List.getElem?_cons_succ, List.set_cons_zero, List.set_cons_succ, at0, at1, at2, isLst, isOwn, true_and, and_true, Bool.not_true, Bool.not_false, decide_true, decide_false, o_ite, o_iteP, p64, p50, p40, p11, p11b, p12, p6, dk2, dk3, dk4, dk5, dk7, dk8, dk10, dk16, dk32, dk64, dk128, dk1024, dk2048, dk42, dk60, dk9, dk6, asg, setAll, wipeE, reduceIte, eq_self, ite_true, ite_false, b_sum, b_sum2, es_ee, nes_ee, es_ep, nes_ep, es_et, nes_et, es_pe, nes_pe, es_pp, nes_pp, es_pt, nes_pt, es_te, nes_te, es_tp, nes_tp, es_tt, nes_tt, o_last, la_l, dk0_int, dk0_str, nl_none, nl_int, nl_var, nl_bin, nl_neg, nl_idx, nl_bi, pt_t, pt_f, sl_l, sl_t, mul_li, b_isbl, view_d, Option.map_some, tyD, mtTy, view_o, tyD_dic]
    refine ⟨by omega, WI_d (fun h => call0 (h10 _ (by omega) (by omega)) rfl ?_) fun h => ⟨bs, _, _, rfl, .inl rfl, by omega, ob⟩⟩
    rintro _ ⟨y, rfl, -⟩
    simp only [startE, List.map_cons, List.map_nil, List.length_cons, List.length_nil, List.replicate, List.cons_append, List.nil_append, Nat.reduceAdd, Nat.reduceSub, w_ok, w_bind, w_ofO, o_some, o_map, o_bind, i_t, i_f, i_d, i_not, w_lit, w_glob, w_var, v_d, v_l, v_k, o_both, w_bin, w_neg, w_tru, w_not, w_and, w_or, w_cmp, w_chain, w_ife, w_call, w_bi, w_get2, w_mt, w_idx, w_slice, w_tuple, w_fr, ws_nil, ws_cons, wo_list, wo_listOf, wo_dict0, wo_dict1, wo_comp, wi_seq, wi_range1, wi_range2, wi_enum, wi_zip, wi_rev, wi_keys, w_lookf, w_lookt, w_frd, w_fro, f_l, f_k, w_fa0, w_fa1, o_view, o_viewd, o_views0, o_views1, uc_int, uc_bool, uc_str, uc_none, uc_list, uc_tuple, k_nx, k_bk, k_ct, k_rt, w_nil, w_cons, w_set, w_own, w_unpack, w_par, w_put, w_append, w_insert, w_pop, w_popTo, w_onl, l_l, w_putE, p_l, p_k, w_expr, w_ret, w_retN, w_ite, w_wh, w_for, w_brk, w_cont, w_pass, a_ii, a_ss, a_ll, a_tt, s_ii, m_ii, d_ii, r_ii, t_none, t_bool, t_int, t_list, t_tuple, n_int, lt_ii, le_ii, gt_ii, ge_ii, eq_ii, ne_ii, eq_bb, ne_bb, is_bb, isn_bb, i_li, i_ti, sq_l, sq_t, sq_s, ll_l, as_l, as_t, ip_i, b_lenl, b_lent, b_lens, b_abs, b_inti, b_intb, b_tl, b_isb, b_isl, b_ist, b_isi, b_isbi, l_nx, l_ct, l_bk, l_rt, slot_l, slot_k, slot_d, Option.bind_some, Option.bind_none, List.getElem?_cons_zero, List.getElem?_cons_succ, List.set_cons_zero, List.set_cons_succ, at0, at1, at2, isLst, isOwn, true_and, and_true, Bool.not_true, Bool.not_false, decide_true, decide_false, o_ite, o_iteP, p64, p50, p40, p11, p11b, p12, p6, dk2, dk3, dk4, dk5, dk7, dk8, dk10, dk16, dk32, dk64, dk128, dk1024, dk2048, dk42, dk60, dk9, dk6, asg, setAll, wipeE, reduceIte, eq_self, ite_true, ite_false, b_sum, b_sum2, es_ee, nes_ee, es_ep, nes_ep, es_et, nes_et, es_pe, nes_pe, es_pp, nes_pp, es_pt, nes_pt, es_te, nes_te, es_tp, nes_tp, es_tt, nes_tt, o_last, la_l, dk0_int, dk0_str, nl_none, nl_int, nl_var, nl_bin, nl_neg, nl_idx, nl_bi, pt_t, pt_f, sl_l, sl_t, mul_li, b_isbl, view_d, Option.map_some, tyD, mtTy, view_o, tyD_dic ]
    refine ⟨divOk_sm (by omega) (by omega), by omega, ?_⟩
    have e1 : (n : Int) - 1 = ((n - 1 : Nat) : Int) := by omega
    rw [e1]
    refine ⟨r62_sm (by omega), w_cw1 (List.range (n - 1)) (fun k : Nat => .int k) (fun k z => ∃ p : Pl, z = p.enc ∧ OkP n p) (rd0 _) rfl (by simp; omega) (fun k hk => ?_) fun zs hz => ?_⟩
    · have hk : k < n - 1 := List.mem_range.mp hk
      simp only [startE, List.map_cons, List.map_nil, List.length_cons, List.length_nil, List.replicate, List.cons_append, List.nil_append, Nat.reduceAdd, Nat.reduceSub, w_ok, w_bind, w_ofO, o_some, o_map, o_bind, i_t, i_f, i_not, w_lit, w_glob, w_var, v_d, v_l, v_k, o_both, w_bin, w_neg, w_tru, w_not, w_and, w_or, w_cmp, w_chain, w_ife, w_call, w_bi, w_get2, w_mt, w_idx, w_slice, w_tuple, w_fr, ws_nil, ws_cons, wo_list, wo_listOf, wo_dict0, wo_dict1, wo_comp, wi_seq, wi_range1, wi_range2, wi_enum, wi_zip, wi_rev, wi_keys, w_lookf, w_lookt, w_frd, w_fro, f_l, f_k, w_fa0, w_fa1, o_view, o_viewd, o_views0, o_views1, uc_int, uc_bool, uc_str, uc_none, uc_list, uc_tuple, k_bk, k_ct, k_rt, w_nil, w_cons, w_set, w_own, w_unpack, w_par, w_put, w_append, w_insert, w_pop, w_popTo, w_onl, l_l, w_putE, p_l, p_k, w_expr, w_ret, w_retN, w_ite, w_wh, w_for, w_brk, w_cont, w_pass, a_ii, a_ss, a_ll, a_tt, s_ii, m_ii, d_ii, r_ii, t_none, t_bool, t_int, t_list, t_tuple, n_int, lt_ii, le_ii, gt_ii, ge_ii, eq_ii, ne_ii, eq_bb, ne_bb, is_bb, isn_bb, i_li, i_ti, sq_l, sq_t, sq_s, ll_l, as_l, as_t, ip_i, b_lenl, b_lent, b_lens, b_abs, b_inti, b_intb, b_tl, b_isb, b_isl, b_ist, b_isi, b_isbi, l_nx, l_ct, l_bk, l_rt, slot_l, slot_k, slot_d, Option.bind_some, Option.bind_none, List.getElem?_cons_zero, List.getElem?_cons_succ, List.set_cons_zero, List.set_cons_succ, at0, at1, at2, isLst, isOwn, true_and, and_true, Bool.not_true, Bool.not_false, decide_true, decide_false, o_ite, o_iteP, p64, p50, p40, p11, p11b, p12, p6, dk2, dk3, dk4, dk5, dk7, dk8, dk10, dk16, dk32, dk64, dk128, dk1024, dk2048, dk42, dk60, dk9, dk6, asg, setAll, wipeE, reduceIte, eq_self, ite_true, ite_false, b_sum, b_sum2, es_ee, nes_ee, es_ep, nes_ep, es_et, nes_et, es_pe, nes_pe, es_pp, nes_pp, es_pt, nes_pt, es_te, nes_te, es_tp, nes_tp, es_tt, nes_tt, o_last, la_l, dk0_int, dk0_str, nl_none, nl_int, nl_var, nl_bin, nl_neg, nl_idx, nl_bi, pt_t, pt_f, sl_l, sl_t, mul_li, b_isbl, view_d, Option.map_some, tyD, mtTy, view_o, tyD_dic]
      exact ⟨by omega, .throw (_, 1) [(1 + (k : Int) % 3, (k : Int) + 1)], rfl, ok1 _ _ _ (by omega) (by omega) (by omega) (by omega)⟩
    · obtain ⟨cs, rfl, hc⟩ := hz.codes
      have cl := hc.length
      simp only [List.length_range] at cl
      simp only [startE, List.map_cons, List.map_nil, List.length_cons, List.length_nil, List.replicate, List.cons_append, List.nil_append, Nat.reduceAdd, Nat.reduceSub, w_ok, w_bind, w_ofO, o_some, o_map, o_bind, i_t, i_f, i_d, i_not, w_lit, w_glob, w_var, v_d, v_l, v_k, o_both, w_bin, w_neg, w_tru, w_not, w_and, w_or, w_cmp, w_chain, w_ife, w_call, w_bi, w_get2, w_mt, w_idx, w_slice, w_tuple, w_fr, ws_nil, ws_cons, wo_list, wo_listOf, wo_dict0, wo_dict1, wo_comp, wi_seq, wi_range1, wi_range2, wi_enum, wi_zip, wi_rev, wi_keys, w_lookf, w_lookt, w_frd, w_fro, f_l, f_k, w_fa0, w_fa1, o_view, o_viewd, o_views0, o_views1, uc_int, uc_bool, uc_str, uc_none, uc_list, uc_tuple, k_nx, k_bk, k_ct, k_rt, w_nil, w_cons, w_set, w_own, w_unpack, w_par, w_put, w_append, w_insert, w_pop, w_popTo, w_onl, l_l, w_putE, p_l, p_k, w_expr, w_ret, w_retN, w_ite, w_wh, w_for, w_brk, w_cont, w_pass, a_ii, a_ss, a_ll, a_tt, s_ii, m_ii, d_ii, r_ii, t_none, t_bool, t_int, t_list, t_tuple, n_int, lt_ii, le_ii, gt_ii, ge_ii, eq_ii, ne_ii, eq_bb, ne_bb, is_bb, isn_bb, i_li, i_ti, sq_l, sq_t, sq_s, ll_l, as_l, as_t, ip_i, b_lenl, b_lent, b_lens, b_abs, b_inti, b_intb, b_tl, b_isb, b_isl, b_ist, b_isi, b_isbi, l_nx, l_ct, l_bk, l_rt, slot_l, slot_k, slot_d, Option.bind_some, Option.bind_none, List.getElem?_cons_zero, List.getElem?_cons_succ, List.set_cons_zero, List.set_cons_succ, at0, at1, at2, isLst, isOwn, true_and, and_true, Bool.not_true, Bool.not_false, decide_true, decide_false, o_ite, o_iteP, p64, p50, p40, p11, p11b, p12, p6, dk2, dk3, dk4, dk5, dk7, dk8, dk10, dk16, dk32, dk64, dk128, dk1024, dk2048, dk42, dk60, dk9, dk6, asg, setAll, wipeE, reduceIte, eq_self, ite_true, ite_false, b_sum, b_sum2, es_ee, nes_ee, es_ep, nes_ep, es_et, nes_et, es_pe, nes_pe, es_pp, nes_pp, es_pt, nes_pt, es_te, nes_te, es_tp, nes_tp, es_tt, nes_tt, o_last, la_l, dk0_int, dk0_str, nl_none, nl_int, nl_var, nl_bin, nl_neg, nl_idx, nl_bi, pt_t, pt_f, sl_l, sl_t, mul_li, b_isbl, view_d, Option.map_some, tyD, mtTy, view_o, tyD_dic ]
      refine ⟨small_of (by simp; omega), cs ++ [.fin (1, 1)], _, _, rfl, .inr (by simp [Pl.enc, pairD]), by simp; omega, fun p hp => ?_⟩
      rcases List.mem_append.mp hp with hp | hp
      · obtain ⟨k, _, h⟩ := hc.right p hp
        exact h
      · rw [List.mem_singleton] at hp
        rw [hp]; trivial
  rintro _ ⟨bs, s, t, rfl, hs, bl, ob⟩
  refine cutn (fun ρ => ∃ (bs : List Pl) (s t u : SV), ρ = [.d (iL ns), .d (.int who), .d (.int n), .d (.int m), s, t, u, .unb, .unb] ∧ (s = .lst (bs.map Pl.enc) ∨ s = .d (bd bs)) ∧ bs.length = n ∧ ∀ p ∈ bs, OkP n p) ?_ ?_
  · simp only [startE, List.map_cons, List.map_nil, List.length_cons, List.length_nil, List.replicate, List.cons_append, List.nil_append, Nat.reduceAdd, Nat.reduceSub, w_ok, w_bind, w_ofO, o_some, o_map, o_bind, i_t, i_f, i_not, w_lit, w_glob, w_var, v_d, v_l, v_k, o_both, w_bin, w_neg, w_tru, w_not, w_and, w_or, w_cmp, w_chain, w_ife, w_call, w_bi, w_get2, w_mt, w_idx, w_slice, w_tuple, w_fr, ws_nil, ws_cons, wo_list, wo_listOf, wo_dict0, wo_dict1, wo_comp, wi_seq, wi_range1, wi_range2, wi_enum, wi_zip, wi_rev, wi_keys, w_lookf, w_lookt, w_frd, w_fro, f_l, f_k, w_fa0, w_fa1, o_view, o_viewd, o_views0, o_views1, uc_int, uc_bool, uc_str, uc_none, uc_list, uc_tuple, k_bk, k_ct, k_rt, w_nil, w_cons, w_set, w_own, w_unpack, w_par, w_put, w_append, w_insert, w_pop, w_popTo, w_onl, l_l, w_putE, p_l, p_k, w_expr, w_ret, w_retN, w_ite, w_wh, w_for, w_brk, w_cont, w_pass, a_ii, a_ss, a_ll, a_tt, s_ii, m_ii, d_ii, r_ii, t_none, t_bool, t_int, t_list, t_tuple, n_int, lt_ii, le_ii, gt_ii, ge_ii, eq_ii, ne_ii, eq_bb, ne_bb, is_bb, isn_bb, i_li, i_ti, sq_l, sq_t, sq_s, ll_l, as_l, as_t, ip_i, b_lenl, b_lent, b_lens, b_abs, b_inti, b_intb, b_tl, b_isb, b_isl, b_ist, b_isi, b_isbi, l_nx, l_ct, l_bk, l_rt, slot_l, slot_k, slot_d, Option.bind_some, Option.bind_none, List.getElem?_cons_zero, List.getElem?_cons_succ, List.set_cons_zero, List.set_cons_succ, at0, at1, at2, isLst, isOwn, true_and, and_true, Bool.not_true, Bool.not_false, decide_true, decide_false, o_ite, o_iteP, p64, p50, p40, p11, p11b, p12, p6, dk2, dk3, dk4, dk5, dk7, dk8, dk10, dk16, dk32, dk64, dk128, dk1024, dk2048, dk42, dk60, dk9, dk6, asg, setAll, wipeE, reduceIte, eq_self, ite_true, ite_false, b_sum, b_sum2, es_ee, nes_ee, es_ep, nes_ep, es_et, nes_et, es_pe, nes_pe, es_pp, nes_pp, es_pt, nes_pt, es_te, nes_te, es_tp, nes_tp, es_tt, nes_tt, o_last, la_l, dk0_int, dk0_str, nl_none, nl_int, nl_var, nl_bin, nl_neg, nl_idx, nl_bi, pt_t, pt_f, sl_l, sl_t, mul_li, b_isbl, view_d, Option.map_some, tyD, mtTy, view_o, tyD_dic]
    refine call0 (h10 _ (by omega) (by omega)) rfl ?_
    rintro _ ⟨y, rfl, -⟩
    have here : ∃ (bs_1 : List Pl) (s_1 t_1 u : SV), ([.d (iL ns), .d (.int who), .d (.int n), .d (.int m), s, t, .unb, .unb, .unb] : Env) = [.d (iL ns), .d (.int who), .d (.int n), .d (.int m), s_1, t_1, u, .unb, .unb] ∧ (s_1 = .lst (bs_1.map Pl.enc) ∨ s_1 = .d (bd bs_1)) ∧ bs_1.length = n ∧ ∀ p ∈ bs_1, OkP n p := ⟨bs, s, t, .unb, rfl, hs, bl, ob⟩
    simp only [startE, List.map_cons, List.map_nil, List.length_cons, List.length_nil, List.replicate, List.cons_append, List.nil_append, Nat.reduceAdd, Nat.reduceSub, w_ok, w_bind, w_ofO, o_some, o_map, o_bind, i_t, i_f, i_not, w_lit, w_glob, w_var, v_d, v_l, v_k, o_both, w_bin, w_neg, w_tru, w_not, w_and, w_or, w_cmp, w_chain, w_ife, w_call, w_bi, w_get2, w_mt, w_idx, w_slice, w_tuple, w_fr, ws_nil, ws_cons, wo_list, wo_listOf, wo_dict0, wo_dict1, wo_comp, wi_seq, wi_range1, wi_range2, wi_enum, wi_zip, wi_rev, wi_keys, w_lookf, w_lookt, w_frd, w_fro, f_l, f_k, w_fa0, w_fa1, o_view, o_viewd, o_views0, o_views1, uc_int, uc_bool, uc_str, uc_none, uc_list, uc_tuple, k_bk, k_ct, k_rt, w_nil, w_cons, w_set, w_own, w_unpack, w_par, w_put, w_append, w_insert, w_pop, w_popTo, w_onl, l_l, w_putE, p_l, p_k, w_expr, w_ret, w_retN, w_ite, w_wh, w_for, w_brk, w_cont, w_pass, a_ii, a_ss, a_ll, a_tt, s_ii, m_ii, d_ii, r_ii, t_none, t_bool, t_int, t_list, t_tuple, n_int, lt_ii, le_ii, gt_ii, ge_ii, eq_ii, ne_ii, eq_bb, ne_bb, is_bb, isn_bb, i_li, i_ti, sq_l, sq_t, sq_s, ll_l, as_l, as_t, ip_i, b_lenl, b_lent, b_lens, b_abs, b_inti, b_intb, b_tl, b_isb, b_isl, b_ist, b_isi, b_isbi, l_nx, l_ct, l_bk, l_rt, slot_l, slot_k, slot_d, Option.bind_some, Option.bind_none, List.getElem?_cons_zero, List.getElem?_cons_succ, List.set_cons_zero, List.set_cons_succ, at0, at1, at2, isLst, isOwn, true_and, and_true, Bool.not_true, Bool.not_false, decide_true, decide_false, o_ite, o_iteP, p64, p50, p40, p11, p11b, p12, p6, dk2, dk3, dk4, dk5, dk7, dk8, dk10, dk16, dk32, dk64, dk128, dk1024, dk2048, dk42, dk60, dk9, dk6, asg, setAll, wipeE, reduceIte, eq_self, ite_true, ite_false, b_sum, b_sum2, es_ee, nes_ee, es_ep, nes_ep, es_et, nes_et, es_pe, nes_pe, es_pp, nes_pp, es_pt, nes_pt, es_te, nes_te, es_tp, nes_tp, es_tt, nes_tt, o_last, la_l, dk0_int, dk0_str, nl_none, nl_int, nl_var, nl_bin, nl_neg, nl_idx, nl_bi, pt_t, pt_f, sl_l, sl_t, mul_li, b_isbl, view_d, Option.map_some, tyD, mtTy, view_o, tyD_dic]
    refine ⟨by omega, WI_d (fun h => WI_d (fun h2 => ?_) fun h2 => here) fun h => WI_f h here⟩
    have e1 : (n : Int) - 4 = ((n - 4 : Nat) : Int) := by omega
    have okn : ∀ j : Nat, j < 2 → OkP n (.throw (0, 1) [(1, (n : Int) - 2), (999998 + (j : Int), (n : Int) - 1)]) := fun j hj => ⟨fun p hp => by
      simp at hp
      rcases hp with rfl | rfl
      · exact ⟨by omega, by show (1 : Int) < 2 ^ 40; omega, by show (0 : Int) ≤ n - 2; omega, by show (n : Int) - 2 < n; omega⟩
      · exact ⟨by show (0 : Int) < 999998 + j; omega, by show (999998 : Int) + j < 2 ^ 40; omega, by show (0 : Int) ≤ n - 1; omega, by show (n : Int) - 1 < n; omega⟩, by simp, by simp⟩
    have last : ∃ (bs_1 : List Pl), (bs.take (n - 4)).map Pl.enc ++ (List.range 2).map (fun j : Nat => (Pl.throw (0, 1) [(1, (n : Int) - 2), (999998 + (j : Int), (n : Int) - 1)]).enc) ++ [PyData.tuple [PyData.str (Str.ofString "end"), PyData.tuple [PyData.int 0, PyData.int 1]], PyData.tuple [PyData.str (Str.ofString "end"), PyData.tuple [PyData.int 1, PyData.int 1]]] = bs_1.map Pl.enc ∧ bs_1.length = n ∧ ∀ p ∈ bs_1, OkP n p := by
      refine ⟨bs.take (n - 4) ++ (List.range 2).map (fun j : Nat => (Pl.throw (0, 1) [(1, (n : Int) - 2), (999998 + (j : Int), (n : Int) - 1)])) ++ [.fin (0, 1), .fin (1, 1)], by simp [Pl.enc, pairD, Function.comp_def], by simp; omega, fun p hp => ?_⟩
      rcases List.mem_append.mp hp with hp | hp
      · rcases List.mem_append.mp hp with hp | hp
        · exact ob p (List.mem_of_mem_take hp)
        · obtain ⟨j, hj, rfl⟩ := List.mem_map.mp hp
          exact okn j (List.mem_range.mp hj)
      · simp at hp
        rcases hp with rfl | rfl <;> trivial
    obtain ⟨fs, fe, fl, fo⟩ := last
    refine ⟨by decide +kernel, w_cw1 (List.range 2) (fun k : Nat => .int k) (fun k z => z = .list [pairD (1, (n : Int) - 2), pairD (999998 + (k : Int), (n : Int) - 1)]) (rd0 2) rfl (by simp; omega) (fun k hk => ?_) fun zs hz => ?_⟩
    · simp only [startE, List.map_cons, List.map_nil, List.length_cons, List.length_nil, List.replicate, List.cons_append, List.nil_append, Nat.reduceAdd, Nat.reduceSub, w_ok, w_bind, w_ofO, o_some, o_map, o_bind, i_t, i_f, i_not, w_lit, w_glob, w_var, v_d, v_l, v_k, o_both, w_bin, w_neg, w_tru, w_not, w_and, w_or, w_cmp, w_chain, w_ife, w_call, w_bi, w_get2, w_mt, w_idx, w_slice, w_tuple, w_fr, ws_nil, ws_cons, wo_list, wo_listOf, wo_dict0, wo_dict1, wo_comp, wi_seq, wi_range1, wi_range2, wi_enum, wi_zip, wi_rev, wi_keys, w_lookf, w_lookt, w_frd, w_fro, f_l, f_k, w_fa0, w_fa1, o_view, o_viewd, o_views0, o_views1, uc_int, uc_bool, uc_str, uc_none, uc_list, uc_tuple, k_bk, k_ct, k_rt, w_nil, w_cons, w_set, w_own, w_unpack, w_par, w_put, w_append, w_insert, w_pop, w_popTo, w_onl, l_l, w_putE, p_l, p_k, w_expr, w_ret, w_retN, w_ite, w_wh, w_for, w_brk, w_cont, w_pass, a_ii, a_ss, a_ll, a_tt, s_ii, m_ii, d_ii, r_ii, t_none, t_bool, t_int, t_list, t_tuple, n_int, lt_ii, le_ii, gt_ii, ge_ii, eq_ii, ne_ii, eq_bb, ne_bb, is_bb, isn_bb, i_li, i_ti, sq_l, sq_t, sq_s, ll_l, as_l, as_t, ip_i, b_lenl, b_lent, b_lens, b_abs, b_inti, b_intb, b_tl, b_isb, b_isl, b_ist, b_isi, b_isbi, l_nx, l_ct, l_bk, l_rt, slot_l, slot_k, slot_d, Option.bind_some, Option.bind_none, List.getElem?_cons_zero, List.getElem?_cons_succ, List.set_cons_zero, List.set_cons_succ, at0, at1, at2, isLst, isOwn, true_and, and_true, Bool.not_true, Bool.not_false, decide_true, decide_false, o_ite, o_iteP, p64, p50, p40, p11, p11b, p12, p6, dk2, dk3, dk4, dk5, dk7, dk8, dk10, dk16, dk32, dk64, dk128, dk1024, dk2048, dk42, dk60, dk9, dk6, asg, setAll, wipeE, reduceIte, eq_self, ite_true, ite_false, b_sum, b_sum2, es_ee, nes_ee, es_ep, nes_ep, es_et, nes_et, es_pe, nes_pe, es_pp, nes_pp, es_pt, nes_pt, es_te, nes_te, es_tp, nes_tp, es_tt, nes_tt, o_last, la_l, dk0_int, dk0_str, nl_none, nl_int, nl_var, nl_bin, nl_neg, nl_idx, nl_bi, pt_t, pt_f, sl_l, sl_t, mul_li, b_isbl, view_d, Option.map_some, tyD, mtTy, view_o, tyD_dic, pairD]
    · rw [hz.map_eq]
      simp only [startE, List.map_cons, List.map_nil, List.length_cons, List.length_nil, List.replicate, List.cons_append, List.nil_append, Nat.reduceAdd, Nat.reduceSub, w_ok, w_bind, w_ofO, o_some, o_map, o_bind, i_t, i_f, i_not, w_lit, w_glob, w_var, v_d, v_l, v_k, o_both, w_bin, w_neg, w_tru, w_not, w_and, w_or, w_cmp, w_chain, w_ife, w_call, w_bi, w_get2, w_mt, w_idx, w_slice, w_tuple, w_fr, ws_nil, ws_cons, wo_list, wo_listOf, wo_dict0, wo_dict1, wo_comp, wi_seq, wi_range1, wi_range2, wi_enum, wi_zip, wi_rev, wi_keys, w_lookf, w_lookt, w_frd, w_fro, f_l, f_k, w_fa0, w_fa1, o_view, o_viewd, o_views0, o_views1, uc_int, uc_bool, uc_str, uc_none, uc_list, uc_tuple, k_bk, k_ct, k_rt, w_nil, w_cons, w_set, w_own, w_unpack, w_par, w_put, w_append, w_insert, w_pop, w_popTo, w_onl, l_l, w_putE, p_l, p_k, w_expr, w_ret, w_retN, w_ite, w_wh, w_for, w_brk, w_cont, w_pass, a_ii, a_ss, a_ll, a_tt, s_ii, m_ii, d_ii, r_ii, t_none, t_bool, t_int, t_list, t_tuple, n_int, lt_ii, le_ii, gt_ii, ge_ii, eq_ii, ne_ii, eq_bb, ne_bb, is_bb, isn_bb, i_li, i_ti, sq_l, sq_t, sq_s, ll_l, as_l, as_t, ip_i, b_lenl, b_lent, b_lens, b_abs, b_inti, b_intb, b_tl, b_isb, b_isl, b_ist, b_isi, b_isbi, l_nx, l_ct, l_bk, l_rt, slot_l, slot_k, slot_d, Option.bind_some, Option.bind_none, List.getElem?_cons_zero, List.getElem?_cons_succ, List.set_cons_zero, List.set_cons_succ, at0, at1, at2, isLst, isOwn, true_and, and_true, Bool.not_true, Bool.not_false, decide_true, decide_false, o_ite, o_iteP, p64, p50, p40, p11, p11b, p12, p6, dk2, dk3, dk4, dk5, dk7, dk8, dk10, dk16, dk32, dk64, dk128, dk1024, dk2048, dk42, dk60, dk9, dk6, asg, setAll, wipeE, reduceIte, eq_self, ite_true, ite_false, b_sum, b_sum2, es_ee, nes_ee, es_ep, nes_ep, es_et, nes_et, es_pe, nes_pe, es_pp, nes_pp, es_pt, nes_pt, es_te, nes_te, es_tp, nes_tp, es_tt, nes_tt, o_last, la_l, dk0_int, dk0_str, nl_none, nl_int, nl_var, nl_bin, nl_neg, nl_idx, nl_bi, pt_t, pt_f, sl_l, sl_t, mul_li, b_isbl, view_d, Option.map_some, tyD, mtTy, view_o, tyD_dic]
      rw [k_nx]
      rcases hs with rfl | rfl
      · simp only [startE, List.map_cons, List.map_nil, List.length_cons, List.length_nil, List.replicate, List.cons_append, List.nil_append, Nat.reduceAdd, Nat.reduceSub, w_ok, w_bind, w_ofO, o_some, o_map, o_bind, i_t, i_f, i_not, w_lit, w_glob, w_var, v_d, v_l, v_k, o_both, w_bin, w_neg, w_tru, w_not, w_and, w_or, w_cmp, w_chain, w_ife, w_call, w_bi, w_get2, w_mt, w_idx, w_slice, w_tuple, w_fr, ws_nil, ws_cons, wo_list, wo_listOf, wo_dict0, wo_dict1, wo_comp, wi_seq, wi_range1, wi_range2, wi_enum, wi_zip, wi_rev, wi_keys, w_lookf, w_lookt, w_frd, w_fro, f_l, f_k, w_fa0, w_fa1, o_view, o_viewd, o_views0, o_views1, uc_int, uc_bool, uc_str, uc_none, uc_list, uc_tuple, k_bk, k_ct, k_rt, w_nil, w_cons, w_set, w_own, w_unpack, w_par, w_put, w_append, w_insert, w_pop, w_popTo, w_onl, l_l, w_putE, p_l, p_k, w_expr, w_ret, w_retN, w_ite, w_wh, w_for, w_brk, w_cont, w_pass, a_ii, a_ss, a_ll, a_tt, s_ii, m_ii, d_ii, r_ii, t_none, t_bool, t_int, t_list, t_tuple, n_int, lt_ii, le_ii, gt_ii, ge_ii, eq_ii, ne_ii, eq_bb, ne_bb, is_bb, isn_bb, i_li, i_ti, sq_l, sq_t, sq_s, ll_l, as_l, as_t, ip_i, b_lenl, b_lent, b_lens, b_abs, b_inti, b_intb, b_tl, b_isb, b_isl, b_ist, b_isi, b_isbi, l_nx, l_ct, l_bk, l_rt, slot_l, slot_k, slot_d, Option.bind_some, Option.bind_none, List.getElem?_cons_zero, List.getElem?_cons_succ, List.set_cons_zero, List.set_cons_succ, at0, at1, at2, isLst, isOwn, true_and, and_true, Bool.not_true, Bool.not_false, decide_true, decide_false, o_ite, o_iteP, p64, p50, p40, p11, p11b, p12, p6, dk2, dk3, dk4, dk5, dk7, dk8, dk10, dk16, dk32, dk64, dk128, dk1024, dk2048, dk42, dk60, dk9, dk6, asg, setAll, wipeE, reduceIte, eq_self, ite_true, ite_false, b_sum, b_sum2, es_ee, nes_ee, es_ep, nes_ep, es_et, nes_et, es_pe, nes_pe, es_pp, nes_pp, es_pt, nes_pt, es_te, nes_te, es_tp, nes_tp, es_tt, nes_tt, o_last, la_l, dk0_int, dk0_str, nl_none, nl_int, nl_var, nl_bin, nl_neg, nl_idx, nl_bi, pt_t, pt_f, sl_l, sl_t, mul_li, b_isbl, view_d, Option.map_some, tyD, mtTy, view_o, tyD_dic]
        rw [e1, cut_to, ← List.map_take]
        refine w_cw1 (List.range 2) (fun k : Nat => .list [pairD (1, (n : Int) - 2), pairD (999998 + (k : Int), (n : Int) - 1)]) (fun k z => z = (Pl.throw (0, 1) [(1, (n : Int) - 2), (999998 + (k : Int), (n : Int) - 1)]).enc) rfl rfl (by simp; omega) (fun k hk => ?_) fun zs hz => ?_
        · simp only [startE, List.map_cons, List.map_nil, List.length_cons, List.length_nil, List.replicate, List.cons_append, List.nil_append, Nat.reduceAdd, Nat.reduceSub, w_ok, w_bind, w_ofO, o_some, o_map, o_bind, i_t, i_f, i_not, w_lit, w_glob, w_var, v_d, v_l, v_k, o_both, w_bin, w_neg, w_tru, w_not, w_and, w_or, w_cmp, w_chain, w_ife, w_call, w_bi, w_get2, w_mt, w_idx, w_slice, w_tuple, w_fr, ws_nil, ws_cons, wo_list, wo_listOf, wo_dict0, wo_dict1, wo_comp, wi_seq, wi_range1, wi_range2, wi_enum, wi_zip, wi_rev, wi_keys, w_lookf, w_lookt, w_frd, w_fro, f_l, f_k, w_fa0, w_fa1, o_view, o_viewd, o_views0, o_views1, uc_int, uc_bool, uc_str, uc_none, uc_list, uc_tuple, k_bk, k_ct, k_rt, w_nil, w_cons, w_set, w_own, w_unpack, w_par, w_put, w_append, w_insert, w_pop, w_popTo, w_onl, l_l, w_putE, p_l, p_k, w_expr, w_ret, w_retN, w_ite, w_wh, w_for, w_brk, w_cont, w_pass, a_ii, a_ss, a_ll, a_tt, s_ii, m_ii, d_ii, r_ii, t_none, t_bool, t_int, t_list, t_tuple, n_int, lt_ii, le_ii, gt_ii, ge_ii, eq_ii, ne_ii, eq_bb, ne_bb, is_bb, isn_bb, i_li, i_ti, sq_l, sq_t, sq_s, ll_l, as_l, as_t, ip_i, b_lenl, b_lent, b_lens, b_abs, b_inti, b_intb, b_tl, b_isb, b_isl, b_ist, b_isi, b_isbi, l_nx, l_ct, l_bk, l_rt, slot_l, slot_k, slot_d, Option.bind_some, Option.bind_none, List.getElem?_cons_zero, List.getElem?_cons_succ, List.set_cons_zero, List.set_cons_succ, at0, at1, at2, isLst, isOwn, true_and, and_true, Bool.not_true, Bool.not_false, decide_true, decide_false, o_ite, o_iteP, p64, p50, p40, p11, p11b, p12, p6, dk2, dk3, dk4, dk5, dk7, dk8, dk10, dk16, dk32, dk64, dk128, dk1024, dk2048, dk42, dk60, dk9, dk6, asg, setAll, wipeE, reduceIte, eq_self, ite_true, ite_false, b_sum, b_sum2, es_ee, nes_ee, es_ep, nes_ep, es_et, nes_et, es_pe, nes_pe, es_pp, nes_pp, es_pt, nes_pt, es_te, nes_te, es_tp, nes_tp, es_tt, nes_tt, o_last, la_l, dk0_int, dk0_str, nl_none, nl_int, nl_var, nl_bin, nl_neg, nl_idx, nl_bi, pt_t, pt_f, sl_l, sl_t, mul_li, b_isbl, view_d, Option.map_some, tyD, mtTy, view_o, tyD_dic, enc_throw, pairD]
        · rw [hz.map_eq]
          simp only [startE, List.map_cons, List.map_nil, List.length_cons, List.length_nil, List.replicate, List.cons_append, List.nil_append, Nat.reduceAdd, Nat.reduceSub, w_ok, w_bind, w_ofO, o_some, o_map, o_bind, i_t, i_f, i_d, i_not, w_lit, w_glob, w_var, v_d, v_l, v_k, o_both, w_bin, w_neg, w_tru, w_not, w_and, w_or, w_cmp, w_chain, w_ife, w_call, w_bi, w_get2, w_mt, w_idx, w_slice, w_tuple, w_fr, ws_nil, ws_cons, wo_list, wo_listOf, wo_dict0, wo_dict1, wo_comp, wi_seq, wi_range1, wi_range2, wi_enum, wi_zip, wi_rev, wi_keys, w_lookf, w_lookt, w_frd, w_fro, f_l, f_k, w_fa0, w_fa1, o_view, o_viewd, o_views0, o_views1, uc_int, uc_bool, uc_str, uc_none, uc_list, uc_tuple, k_nx, k_bk, k_ct, k_rt, w_nil, w_cons, w_set, w_own, w_unpack, w_par, w_put, w_append, w_insert, w_pop, w_popTo, w_onl, l_l, w_putE, p_l, p_k, w_expr, w_ret, w_retN, w_ite, w_wh, w_for, w_brk, w_cont, w_pass, a_ii, a_ss, a_ll, a_tt, s_ii, m_ii, d_ii, r_ii, t_none, t_bool, t_int, t_list, t_tuple, n_int, lt_ii, le_ii, gt_ii, ge_ii, eq_ii, ne_ii, eq_bb, ne_bb, is_bb, isn_bb, i_li, i_ti, sq_l, sq_t, sq_s, ll_l, as_l, as_t, ip_i, b_lenl, b_lent, b_lens, b_abs, b_inti, b_intb, b_tl, b_isb, b_isl, b_ist, b_isi, b_isbi, l_nx, l_ct, l_bk, l_rt, slot_l, slot_k, slot_d, Option.bind_some, Option.bind_none, List.getElem?_cons_zero, List.getElem?_cons_succ, List.set_cons_zero, List.set_cons_succ, at0, at1, at2, isLst, isOwn, true_and, and_true, Bool.not_true, Bool.not_false, decide_true, decide_false, o_ite, o_iteP, p64, p50, p40, p11, p11b, p12, p6, dk2, dk3, dk4, dk5, dk7, dk8, dk10, dk16, dk32, dk64, dk128, dk1024, dk2048, dk42, dk60, dk9, dk6, asg, setAll, wipeE, reduceIte, eq_self, ite_true, ite_false, b_sum, b_sum2, es_ee, nes_ee, es_ep, nes_ep, es_et, nes_et, es_pe, nes_pe, es_pp, nes_pp, es_pt, nes_pt, es_te, nes_te, es_tp, nes_tp, es_tt, nes_tt, o_last, la_l, dk0_int, dk0_str, nl_none, nl_int, nl_var, nl_bin, nl_neg, nl_idx, nl_bi, pt_t, pt_f, sl_l, sl_t, mul_li, b_isbl, view_d, Option.map_some, tyD, mtTy, view_o, tyD_dic ]
          refine ⟨small_of (by simp; omega), small_of (by simp; omega), fs, _, _, _, rfl, .inr ?_, fl, fo⟩
          rw [fe]
      · simp only [startE, List.map_cons, List.map_nil, List.length_cons, List.length_nil, List.replicate, List.cons_append, List.nil_append, Nat.reduceAdd, Nat.reduceSub, w_ok, w_bind, w_ofO, o_some, o_map, o_bind, i_t, i_f, i_not, w_lit, w_glob, w_var, v_d, v_l, v_k, o_both, w_bin, w_neg, w_tru, w_not, w_and, w_or, w_cmp, w_chain, w_ife, w_call, w_bi, w_get2, w_mt, w_idx, w_slice, w_tuple, w_fr, ws_nil, ws_cons, wo_list, wo_listOf, wo_dict0, wo_dict1, wo_comp, wi_seq, wi_range1, wi_range2, wi_enum, wi_zip, wi_rev, wi_keys, w_lookf, w_lookt, w_frd, w_fro, f_l, f_k, w_fa0, w_fa1, o_view, o_viewd, o_views0, o_views1, uc_int, uc_bool, uc_str, uc_none, uc_list, uc_tuple, k_bk, k_ct, k_rt, w_nil, w_cons, w_set, w_own, w_unpack, w_par, w_put, w_append, w_insert, w_pop, w_popTo, w_onl, l_l, w_putE, p_l, p_k, w_expr, w_ret, w_retN, w_ite, w_wh, w_for, w_brk, w_cont, w_pass, a_ii, a_ss, a_ll, a_tt, s_ii, m_ii, d_ii, r_ii, t_none, t_bool, t_int, t_list, t_tuple, n_int, lt_ii, le_ii, gt_ii, ge_ii, eq_ii, ne_ii, eq_bb, ne_bb, is_bb, isn_bb, i_li, i_ti, sq_l, sq_t, sq_s, ll_l, as_l, as_t, ip_i, b_lenl, b_lent, b_lens, b_abs, b_inti, b_intb, b_tl, b_isb, b_isl, b_ist, b_isi, b_isbi, l_nx, l_ct, l_bk, l_rt, slot_l, slot_k, slot_d, Option.bind_some, Option.bind_none, List.getElem?_cons_zero, List.getElem?_cons_succ, List.set_cons_zero, List.set_cons_succ, at0, at1, at2, isLst, isOwn, true_and, and_true, Bool.not_true, Bool.not_false, decide_true, decide_false, o_ite, o_iteP, p64, p50, p40, p11, p11b, p12, p6, dk2, dk3, dk4, dk5, dk7, dk8, dk10, dk16, dk32, dk64, dk128, dk1024, dk2048, dk42, dk60, dk9, dk6, asg, setAll, wipeE, reduceIte, eq_self, ite_true, ite_false, b_sum, b_sum2, es_ee, nes_ee, es_ep, nes_ep, es_et, nes_et, es_pe, nes_pe, es_pp, nes_pp, es_pt, nes_pt, es_te, nes_te, es_tp, nes_tp, es_tt, nes_tt, o_last, la_l, dk0_int, dk0_str, nl_none, nl_int, nl_var, nl_bin, nl_neg, nl_idx, nl_bi, pt_t, pt_f, sl_l, sl_t, mul_li, b_isbl, view_d, Option.map_some, tyD, mtTy, view_o, tyD_dic]
        rw [e1, cut_to, ← List.map_take]
        refine w_cw1 (List.range 2) (fun k : Nat => .list [pairD (1, (n : Int) - 2), pairD (999998 + (k : Int), (n : Int) - 1)]) (fun k z => z = (Pl.throw (0, 1) [(1, (n : Int) - 2), (999998 + (k : Int), (n : Int) - 1)]).enc) rfl rfl (by simp; omega) (fun k hk => ?_) fun zs hz => ?_
        · simp only [startE, List.map_cons, List.map_nil, List.length_cons, List.length_nil, List.replicate, List.cons_append, List.nil_append, Nat.reduceAdd, Nat.reduceSub, w_ok, w_bind, w_ofO, o_some, o_map, o_bind, i_t, i_f, i_not, w_lit, w_glob, w_var, v_d, v_l, v_k, o_both, w_bin, w_neg, w_tru, w_not, w_and, w_or, w_cmp, w_chain, w_ife, w_call, w_bi, w_get2, w_mt, w_idx, w_slice, w_tuple, w_fr, ws_nil, ws_cons, wo_list, wo_listOf, wo_dict0, wo_dict1, wo_comp, wi_seq, wi_range1, wi_range2, wi_enum, wi_zip, wi_rev, wi_keys, w_lookf, w_lookt, w_frd, w_fro, f_l, f_k, w_fa0, w_fa1, o_view, o_viewd, o_views0, o_views1, uc_int, uc_bool, uc_str, uc_none, uc_list, uc_tuple, k_bk, k_ct, k_rt, w_nil, w_cons, w_set, w_own, w_unpack, w_par, w_put, w_append, w_insert, w_pop, w_popTo, w_onl, l_l, w_putE, p_l, p_k, w_expr, w_ret, w_retN, w_ite, w_wh, w_for, w_brk, w_cont, w_pass, a_ii, a_ss, a_ll, a_tt, s_ii, m_ii, d_ii, r_ii, t_none, t_bool, t_int, t_list, t_tuple, n_int, lt_ii, le_ii, gt_ii, ge_ii, eq_ii, ne_ii, eq_bb, ne_bb, is_bb, isn_bb, i_li, i_ti, sq_l, sq_t, sq_s, ll_l, as_l, as_t, ip_i, b_lenl, b_lent, b_lens, b_abs, b_inti, b_intb, b_tl, b_isb, b_isl, b_ist, b_isi, b_isbi, l_nx, l_ct, l_bk, l_rt, slot_l, slot_k, slot_d, Option.bind_some, Option.bind_none, List.getElem?_cons_zero, List.getElem?_cons_succ, List.set_cons_zero, List.set_cons_succ, at0, at1, at2, isLst, isOwn, true_and, and_true, Bool.not_true, Bool.not_false, decide_true, decide_false, o_ite, o_iteP, p64, p50, p40, p11, p11b, p12, p6, dk2, dk3, dk4, dk5, dk7, dk8, dk10, dk16, dk32, dk64, dk128, dk1024, dk2048, dk42, dk60, dk9, dk6, asg, setAll, wipeE, reduceIte, eq_self, ite_true, ite_false, b_sum, b_sum2, es_ee, nes_ee, es_ep, nes_ep, es_et, nes_et, es_pe, nes_pe, es_pp, nes_pp, es_pt, nes_pt, es_te, nes_te, es_tp, nes_tp, es_tt, nes_tt, o_last, la_l, dk0_int, dk0_str, nl_none, nl_int, nl_var, nl_bin, nl_neg, nl_idx, nl_bi, pt_t, pt_f, sl_l, sl_t, mul_li, b_isbl, view_d, Option.map_some, tyD, mtTy, view_o, tyD_dic, enc_throw, pairD]
        · rw [hz.map_eq]
          simp only [startE, List.map_cons, List.map_nil, List.length_cons, List.length_nil, List.replicate, List.cons_append, List.nil_append, Nat.reduceAdd, Nat.reduceSub, w_ok, w_bind, w_ofO, o_some, o_map, o_bind, i_t, i_f, i_d, i_not, w_lit, w_glob, w_var, v_d, v_l, v_k, o_both, w_bin, w_neg, w_tru, w_not, w_and, w_or, w_cmp, w_chain, w_ife, w_call, w_bi, w_get2, w_mt, w_idx, w_slice, w_tuple, w_fr, ws_nil, ws_cons, wo_list, wo_listOf, wo_dict0, wo_dict1, wo_comp, wi_seq, wi_range1, wi_range2, wi_enum, wi_zip, wi_rev, wi_keys, w_lookf, w_lookt, w_frd, w_fro, f_l, f_k, w_fa0, w_fa1, o_view, o_viewd, o_views0, o_views1, uc_int, uc_bool, uc_str, uc_none, uc_list, uc_tuple, k_nx, k_bk, k_ct, k_rt, w_nil, w_cons, w_set, w_own, w_unpack, w_par, w_put, w_append, w_insert, w_pop, w_popTo, w_onl, l_l, w_putE, p_l, p_k, w_expr, w_ret, w_retN, w_ite, w_wh, w_for, w_brk, w_cont, w_pass, a_ii, a_ss, a_ll, a_tt, s_ii, m_ii, d_ii, r_ii, t_none, t_bool, t_int, t_list, t_tuple, n_int, lt_ii, le_ii, gt_ii, ge_ii, eq_ii, ne_ii, eq_bb, ne_bb, is_bb, isn_bb, i_li, i_ti, sq_l, sq_t, sq_s, ll_l, as_l, as_t, ip_i, b_lenl, b_lent, b_lens, b_abs, b_inti, b_intb, b_tl, b_isb, b_isl, b_ist, b_isi, b_isbi, l_nx, l_ct, l_bk, l_rt, slot_l, slot_k, slot_d, Option.bind_some, Option.bind_none, List.getElem?_cons_zero, List.getElem?_cons_succ, List.set_cons_zero, List.set_cons_succ, at0, at1, at2, isLst, isOwn, true_and, and_true, Bool.not_true, Bool.not_false, decide_true, decide_false, o_ite, o_iteP, p64, p50, p40, p11, p11b, p12, p6, dk2, dk3, dk4, dk5, dk7, dk8, dk10, dk16, dk32, dk64, dk128, dk1024, dk2048, dk42, dk60, dk9, dk6, asg, setAll, wipeE, reduceIte, eq_self, ite_true, ite_false, b_sum, b_sum2, es_ee, nes_ee, es_ep, nes_ep, es_et, nes_et, es_pe, nes_pe, es_pp, nes_pp, es_pt, nes_pt, es_te, nes_te, es_tp, nes_tp, es_tt, nes_tt, o_last, la_l, dk0_int, dk0_str, nl_none, nl_int, nl_var, nl_bin, nl_neg, nl_idx, nl_bi, pt_t, pt_f, sl_l, sl_t, mul_li, b_isbl, view_d, Option.map_some, tyD, mtTy, view_o, tyD_dic ]
          refine ⟨small_of (by simp; omega), small_of (by simp; omega), fs, _, _, _, rfl, .inr ?_, fl, fo⟩
          rw [fe]
  rintro _ ⟨bs, s, t, u, rfl, hs, bl, ob⟩
  rcases hs with rfl | rfl
  · simp only [startE, List.map_cons, List.map_nil, List.length_cons, List.length_nil, List.replicate, List.cons_append, List.nil_append, Nat.reduceAdd, Nat.reduceSub, w_ok, w_bind, w_ofO, o_some, o_map, o_bind, i_t, i_f, i_d, i_not, w_lit, w_glob, w_var, v_d, v_l, v_k, o_both, w_bin, w_neg, w_tru, w_not, w_and, w_or, w_cmp, w_chain, w_ife, w_call, w_bi, w_get2, w_mt, w_idx, w_slice, w_tuple, w_fr, ws_nil, ws_cons, wo_list, wo_listOf, wo_dict0, wo_dict1, wo_comp, wi_seq, wi_range1, wi_range2, wi_enum, wi_zip, wi_rev, wi_keys, w_lookf, w_lookt, w_frd, w_fro, f_l, f_k, w_fa0, w_fa1, o_view, o_viewd, o_views0, o_views1, uc_int, uc_bool, uc_str, uc_none, uc_list, uc_tuple, k_nx, k_bk, k_ct, k_rt, w_nil, w_cons, w_set, w_own, w_unpack, w_par, w_put, w_append, w_insert, w_pop, w_popTo, w_onl, l_l, w_putE, p_l, p_k, w_expr, w_ret, w_retN, w_ite, w_wh, w_for, w_brk, w_cont, w_pass, a_ii, a_ss, a_ll, a_tt, s_ii, m_ii, d_ii, r_ii, t_none, t_bool, t_int, t_list, t_tuple, n_int, lt_ii, le_ii, gt_ii, ge_ii, eq_ii, ne_ii, eq_bb, ne_bb, is_bb, isn_bb, i_li, i_ti, sq_l, sq_t, sq_s, ll_l, as_l, as_t, ip_i, b_lenl, b_lent, b_lens, b_abs, b_inti, b_intb, b_tl, b_isb, b_isl, b_ist, b_isi, b_isbi, l_nx, l_ct, l_bk, l_rt, slot_l, slot_k, slot_d, Option.bind_some, Option.bind_none, List.getElem?_cons_zero, List.getElem?_cons_succ, List.set_cons_zero, List.set_cons_succ, at0, at1, at2, isLst, isOwn, true_and, and_true, Bool.not_true, Bool.not_false, decide_true, decide_false, o_ite, o_iteP, p64, p50, p40, p11, p11b, p12, p6, dk2, dk3, dk4, dk5, dk7, dk8, dk10, dk16, dk32, dk64, dk128, dk1024, dk2048, dk42, dk60, dk9, dk6, asg, setAll, wipeE, reduceIte, eq_self, ite_true, ite_false, b_sum, b_sum2, es_ee, nes_ee, es_ep, nes_ep, es_et, nes_et, es_pe, nes_pe, es_pp, nes_pp, es_pt, nes_pt, es_te, nes_te, es_tp, nes_tp, es_tt, nes_tt, o_last, la_l, dk0_int, dk0_str, nl_none, nl_int, nl_var, nl_bin, nl_neg, nl_idx, nl_bi, pt_t, pt_f, sl_l, sl_t, mul_li, b_isbl, view_d, Option.map_some, tyD, mtTy, view_o, tyD_dic ]
    exact ⟨bs, rfl, by omega, fun p hp => by rw [bl]; exact ob p hp⟩
  · simp only [startE, List.map_cons, List.map_nil, List.length_cons, List.length_nil, List.replicate, List.cons_append, List.nil_append, Nat.reduceAdd, Nat.reduceSub, w_ok, w_bind, w_ofO, o_some, o_map, o_bind, i_t, i_f, i_d, i_not, w_lit, w_glob, w_var, v_d, v_l, v_k, o_both, w_bin, w_neg, w_tru, w_not, w_and, w_or, w_cmp, w_chain, w_ife, w_call, w_bi, w_get2, w_mt, w_idx, w_slice, w_tuple, w_fr, ws_nil, ws_cons, wo_list, wo_listOf, wo_dict0, wo_dict1, wo_comp, wi_seq, wi_range1, wi_range2, wi_enum, wi_zip, wi_rev, wi_keys, w_lookf, w_lookt, w_frd, w_fro, f_l, f_k, w_fa0, w_fa1, o_view, o_viewd, o_views0, o_views1, uc_int, uc_bool, uc_str, uc_none, uc_list, uc_tuple, k_nx, k_bk, k_ct, k_rt, w_nil, w_cons, w_set, w_own, w_unpack, w_par, w_put, w_append, w_insert, w_pop, w_popTo, w_onl, l_l, w_putE, p_l, p_k, w_expr, w_ret, w_retN, w_ite, w_wh, w_for, w_brk, w_cont, w_pass, a_ii, a_ss, a_ll, a_tt, s_ii, m_ii, d_ii, r_ii, t_none, t_bool, t_int, t_list, t_tuple, n_int, lt_ii, le_ii, gt_ii, ge_ii, eq_ii, ne_ii, eq_bb, ne_bb, is_bb, isn_bb, i_li, i_ti, sq_l, sq_t, sq_s, ll_l, as_l, as_t, ip_i, b_lenl, b_lent, b_lens, b_abs, b_inti, b_intb, b_tl, b_isb, b_isl, b_ist, b_isi, b_isbi, l_nx, l_ct, l_bk, l_rt, slot_l, slot_k, slot_d, Option.bind_some, Option.bind_none, List.getElem?_cons_zero, List.getElem?_cons_succ, List.set_cons_zero, List.set_cons_succ, at0, at1, at2, isLst, isOwn, true_and, and_true, Bool.not_true, Bool.not_false, decide_true, decide_false, o_ite, o_iteP, p64, p50, p40, p11, p11b, p12, p6, dk2, dk3, dk4, dk5, dk7, dk8, dk10, dk16, dk32, dk64, dk128, dk1024, dk2048, dk42, dk60, dk9, dk6, asg, setAll, wipeE, reduceIte, eq_self, ite_true, ite_false, b_sum, b_sum2, es_ee, nes_ee, es_ep, nes_ep, es_et, nes_et, es_pe, nes_pe, es_pp, nes_pp, es_pt, nes_pt, es_te, nes_te, es_tp, nes_tp, es_tt, nes_tt, o_last, la_l, dk0_int, dk0_str, nl_none, nl_int, nl_var, nl_bin, nl_neg, nl_idx, nl_bi, pt_t, pt_f, sl_l, sl_t, mul_li, b_isbl, view_d, Option.map_some, tyD, mtTy, view_o, tyD_dic ]
    exact ⟨bs, rfl, by omega, fun p hp => by rw [bl]; exact ob p hp⟩
end K71
end VI
set_option Elab.async false
set_option linter.all false
set_option autoImplicit false
set_option maxRecDepth 20000
namespace VI
namespace K71
open PySem AL
theorem behind {Φ : Fns} {p : Pl} {b : Int} (hl : p.goals.length ≤ most) : R0 (run Φ D14 [p.enc, .int b]) fun x => x = (Pl.shift b p).enc := by
  refine w_run ?_
  rw [shift_map]
  cases p with
  | fin v => simp only [startE, List.map_cons, List.map_nil, List.length_cons, List.length_nil, List.replicate, List.cons_append, List.nil_append, Nat.reduceAdd, Nat.reduceSub, w_ok, w_bind, w_ofO, o_some, o_map, o_bind, i_t, i_f, i_d, i_not, w_lit, w_glob, w_var, v_d, v_l, v_k, o_both, w_bin, w_neg, w_tru, w_not, w_and, w_or, w_cmp, w_chain, w_ife, w_call, w_bi, w_get2, w_mt, w_idx, w_slice, w_tuple, w_fr, ws_nil, ws_cons, wo_list, wo_listOf, wo_dict0, wo_dict1, wo_comp, wi_seq, wi_range1, wi_range2, wi_enum, wi_zip, wi_rev, wi_keys, w_lookf, w_lookt, w_frd, w_fro, f_l, f_k, w_fa0, w_fa1, o_view, o_viewd, o_views0, o_views1, uc_int, uc_bool, uc_str, uc_none, uc_list, uc_tuple, k_nx, k_bk, k_ct, k_rt, w_nil, w_cons, w_set, w_own, w_unpack, w_par, w_put, w_append, w_insert, w_pop, w_popTo, w_onl, l_l, w_putE, p_l, p_k, w_expr, w_ret, w_retN, w_ite, w_wh, w_for, w_brk, w_cont, w_pass, a_ii, a_ss, a_ll, a_tt, s_ii, m_ii, d_ii, r_ii, t_none, t_bool, t_int, t_list, t_tuple, n_int, lt_ii, le_ii, gt_ii, ge_ii, eq_ii, ne_ii, eq_bb, ne_bb, is_bb, isn_bb, i_li, i_ti, sq_l, sq_t, sq_s, ll_l, as_l, as_t, ip_i, b_lenl, b_lent, b_lens, b_abs, b_inti, b_intb, b_tl, b_isb, b_isl, b_ist, b_isi, b_isbi, l_nx, l_ct, l_bk, l_rt, slot_l, slot_k, slot_d, Option.bind_some, Option.bind_none, List.getElem?_cons_zero, List.getElem?_cons_succ, List.set_cons_zero, List.set_cons_succ, at0, at1, at2, isLst, isOwn, true_and, and_true, Bool.not_true, Bool.not_false, decide_true, decide_false, o_ite, o_iteP, p64, p50, p40, p11, p11b, p12, p6, dk2, dk3, dk4, dk5, dk7, dk8, dk10, dk16, dk32, dk64, dk128, dk1024, dk2048, dk42, dk60, dk9, dk6, asg, setAll, wipeE, reduceIte, eq_self, ite_true, ite_false, b_sum, b_sum2, es_ee, nes_ee, es_ep, nes_ep, es_et, nes_et, es_pe, nes_pe, es_pp, nes_pp, es_pt, nes_pt, es_te, nes_te, es_tp, nes_tp, es_tt, nes_tt, o_last, la_l, dk0_int, dk0_str, nl_none, nl_int, nl_var, nl_bin, nl_neg, nl_idx, nl_bi, pt_t, pt_f, sl_l, sl_t, mul_li, b_isbl, view_d, Option.map_some, tyD, mtTy, view_o, tyD_dic , enc_fin, Pl.mapG]
  | pick q gs =>
    simp only [startE, List.map_cons, List.map_nil, List.length_cons, List.length_nil, List.replicate, List.cons_append, List.nil_append, Nat.reduceAdd, Nat.reduceSub, w_ok, w_bind, w_ofO, o_some, o_map, o_bind, i_t, i_f, i_d, i_not, w_lit, w_glob, w_var, v_d, v_l, v_k, o_both, w_bin, w_neg, w_tru, w_not, w_and, w_or, w_cmp, w_chain, w_ife, w_call, w_bi, w_get2, w_mt, w_idx, w_slice, w_tuple, w_fr, ws_nil, ws_cons, wo_list, wo_listOf, wo_dict0, wo_dict1, wo_comp, wi_seq, wi_range1, wi_range2, wi_enum, wi_zip, wi_rev, wi_keys, w_lookf, w_lookt, w_frd, w_fro, f_l, f_k, w_fa0, w_fa1, o_view, o_viewd, o_views0, o_views1, uc_int, uc_bool, uc_str, uc_none, uc_list, uc_tuple, k_nx, k_bk, k_ct, k_rt, w_nil, w_cons, w_set, w_own, w_unpack, w_par, w_put, w_append, w_insert, w_pop, w_popTo, w_onl, l_l, w_putE, p_l, p_k, w_expr, w_ret, w_retN, w_ite, w_wh, w_for, w_brk, w_cont, w_pass, a_ii, a_ss, a_ll, a_tt, s_ii, m_ii, d_ii, r_ii, t_none, t_bool, t_int, t_list, t_tuple, n_int, lt_ii, le_ii, gt_ii, ge_ii, eq_ii, ne_ii, eq_bb, ne_bb, is_bb, isn_bb, i_li, i_ti, sq_l, sq_t, sq_s, ll_l, as_l, as_t, ip_i, b_lenl, b_lent, b_lens, b_abs, b_inti, b_intb, b_tl, b_isb, b_isl, b_ist, b_isi, b_isbi, l_nx, l_ct, l_bk, l_rt, slot_l, slot_k, slot_d, Option.bind_some, Option.bind_none, List.getElem?_cons_zero, List.getElem?_cons_succ, List.set_cons_zero, List.set_cons_succ, at0, at1, at2, isLst, isOwn, true_and, and_true, Bool.not_true, Bool.not_false, decide_true, decide_false, o_ite, o_iteP, p64, p50, p40, p11, p11b, p12, p6, dk2, dk3, dk4, dk5, dk7, dk8, dk10, dk16, dk32, dk64, dk128, dk1024, dk2048, dk42, dk60, dk9, dk6, asg, setAll, wipeE, reduceIte, eq_self, ite_true, ite_false, b_sum, b_sum2, es_ee, nes_ee, es_ep, nes_ep, es_et, nes_et, es_pe, nes_pe, es_pp, nes_pp, es_pt, nes_pt, es_te, nes_te, es_tp, nes_tp, es_tt, nes_tt, o_last, la_l, dk0_int, dk0_str, nl_none, nl_int, nl_var, nl_bin, nl_neg, nl_idx, nl_bi, pt_t, pt_f, sl_l, sl_t, mul_li, b_isbl, view_d, Option.map_some, tyD, mtTy, view_o, tyD_dic , enc_pick, Pl.mapG]
    refine w_cw1 gs PyData.int (fun g z => z = .int (g + b)) rfl rfl (by simpa [Pl.goals] using hl) (fun g _ => ?_) fun zs hz => ?_
    · simp only [startE, List.map_cons, List.map_nil, List.length_cons, List.length_nil, List.replicate, List.cons_append, List.nil_append, Nat.reduceAdd, Nat.reduceSub, w_ok, w_bind, w_ofO, o_some, o_map, o_bind, i_t, i_f, i_not, w_lit, w_glob, w_var, v_d, v_l, v_k, o_both, w_bin, w_neg, w_tru, w_not, w_and, w_or, w_cmp, w_chain, w_ife, w_call, w_bi, w_get2, w_mt, w_idx, w_slice, w_tuple, w_fr, ws_nil, ws_cons, wo_list, wo_listOf, wo_dict0, wo_dict1, wo_comp, wi_seq, wi_range1, wi_range2, wi_enum, wi_zip, wi_rev, wi_keys, w_lookf, w_lookt, w_frd, w_fro, f_l, f_k, w_fa0, w_fa1, o_view, o_viewd, o_views0, o_views1, uc_int, uc_bool, uc_str, uc_none, uc_list, uc_tuple, k_bk, k_ct, k_rt, w_nil, w_cons, w_set, w_own, w_unpack, w_par, w_put, w_append, w_insert, w_pop, w_popTo, w_onl, l_l, w_putE, p_l, p_k, w_expr, w_ret, w_retN, w_ite, w_wh, w_for, w_brk, w_cont, w_pass, a_ii, a_ss, a_ll, a_tt, s_ii, m_ii, d_ii, r_ii, t_none, t_bool, t_int, t_list, t_tuple, n_int, lt_ii, le_ii, gt_ii, ge_ii, eq_ii, ne_ii, eq_bb, ne_bb, is_bb, isn_bb, i_li, i_ti, sq_l, sq_t, sq_s, ll_l, as_l, as_t, ip_i, b_lenl, b_lent, b_lens, b_abs, b_inti, b_intb, b_tl, b_isb, b_isl, b_ist, b_isi, b_isbi, l_nx, l_ct, l_bk, l_rt, slot_l, slot_k, slot_d, Option.bind_some, Option.bind_none, List.getElem?_cons_zero, List.getElem?_cons_succ, List.set_cons_zero, List.set_cons_succ, at0, at1, at2, isLst, isOwn, true_and, and_true, Bool.not_true, Bool.not_false, decide_true, decide_false, o_ite, o_iteP, p64, p50, p40, p11, p11b, p12, p6, dk2, dk3, dk4, dk5, dk7, dk8, dk10, dk16, dk32, dk64, dk128, dk1024, dk2048, dk42, dk60, dk9, dk6, asg, setAll, wipeE, reduceIte, eq_self, ite_true, ite_false, b_sum, b_sum2, es_ee, nes_ee, es_ep, nes_ep, es_et, nes_et, es_pe, nes_pe, es_pp, nes_pp, es_pt, nes_pt, es_te, nes_te, es_tp, nes_tp, es_tt, nes_tt, o_last, la_l, dk0_int, dk0_str, nl_none, nl_int, nl_var, nl_bin, nl_neg, nl_idx, nl_bi, pt_t, pt_f, sl_l, sl_t, mul_li, b_isbl, view_d, Option.map_some, tyD, mtTy, view_o, tyD_dic]
    · rw [hz.map_eq]
      simp [slot_l, WO]
  | throw v ws =>
    simp only [startE, List.map_cons, List.map_nil, List.length_cons, List.length_nil, List.replicate, List.cons_append, List.nil_append, Nat.reduceAdd, Nat.reduceSub, w_ok, w_bind, w_ofO, o_some, o_map, o_bind, i_t, i_f, i_d, i_not, w_lit, w_glob, w_var, v_d, v_l, v_k, o_both, w_bin, w_neg, w_tru, w_not, w_and, w_or, w_cmp, w_chain, w_ife, w_call, w_bi, w_get2, w_mt, w_idx, w_slice, w_tuple, w_fr, ws_nil, ws_cons, wo_list, wo_listOf, wo_dict0, wo_dict1, wo_comp, wi_seq, wi_range1, wi_range2, wi_enum, wi_zip, wi_rev, wi_keys, w_lookf, w_lookt, w_frd, w_fro, f_l, f_k, w_fa0, w_fa1, o_view, o_viewd, o_views0, o_views1, uc_int, uc_bool, uc_str, uc_none, uc_list, uc_tuple, k_nx, k_bk, k_ct, k_rt, w_nil, w_cons, w_set, w_own, w_unpack, w_par, w_put, w_append, w_insert, w_pop, w_popTo, w_onl, l_l, w_putE, p_l, p_k, w_expr, w_ret, w_retN, w_ite, w_wh, w_for, w_brk, w_cont, w_pass, a_ii, a_ss, a_ll, a_tt, s_ii, m_ii, d_ii, r_ii, t_none, t_bool, t_int, t_list, t_tuple, n_int, lt_ii, le_ii, gt_ii, ge_ii, eq_ii, ne_ii, eq_bb, ne_bb, is_bb, isn_bb, i_li, i_ti, sq_l, sq_t, sq_s, ll_l, as_l, as_t, ip_i, b_lenl, b_lent, b_lens, b_abs, b_inti, b_intb, b_tl, b_isb, b_isl, b_ist, b_isi, b_isbi, l_nx, l_ct, l_bk, l_rt, slot_l, slot_k, slot_d, Option.bind_some, Option.bind_none, List.getElem?_cons_zero, List.getElem?_cons_succ, List.set_cons_zero, List.set_cons_succ, at0, at1, at2, isLst, isOwn, true_and, and_true, Bool.not_true, Bool.not_false, decide_true, decide_false, o_ite, o_iteP, p64, p50, p40, p11, p11b, p12, p6, dk2, dk3, dk4, dk5, dk7, dk8, dk10, dk16, dk32, dk64, dk128, dk1024, dk2048, dk42, dk60, dk9, dk6, asg, setAll, wipeE, reduceIte, eq_self, ite_true, ite_false, b_sum, b_sum2, es_ee, nes_ee, es_ep, nes_ep, es_et, nes_et, es_pe, nes_pe, es_pp, nes_pp, es_pt, nes_pt, es_te, nes_te, es_tp, nes_tp, es_tt, nes_tt, o_last, la_l, dk0_int, dk0_str, nl_none, nl_int, nl_var, nl_bin, nl_neg, nl_idx, nl_bi, pt_t, pt_f, sl_l, sl_t, mul_li, b_isbl, view_d, Option.map_some, tyD, mtTy, view_o, tyD_dic , enc_throw, Pl.mapG]
    refine w_cw1 ws pairD (fun g z => z = pairD (g.1, g.2 + b)) rfl rfl (by simpa [Pl.goals] using hl) (fun g _ => ?_) fun zs hz => ?_
    · simp only [startE, List.map_cons, List.map_nil, List.length_cons, List.length_nil, List.replicate, List.cons_append, List.nil_append, Nat.reduceAdd, Nat.reduceSub, w_ok, w_bind, w_ofO, o_some, o_map, o_bind, i_t, i_f, i_not, w_lit, w_glob, w_var, v_d, v_l, v_k, o_both, w_bin, w_neg, w_tru, w_not, w_and, w_or, w_cmp, w_chain, w_ife, w_call, w_bi, w_get2, w_mt, w_idx, w_slice, w_tuple, w_fr, ws_nil, ws_cons, wo_list, wo_listOf, wo_dict0, wo_dict1, wo_comp, wi_seq, wi_range1, wi_range2, wi_enum, wi_zip, wi_rev, wi_keys, w_lookf, w_lookt, w_frd, w_fro, f_l, f_k, w_fa0, w_fa1, o_view, o_viewd, o_views0, o_views1, uc_int, uc_bool, uc_str, uc_none, uc_list, uc_tuple, k_bk, k_ct, k_rt, w_nil, w_cons, w_set, w_own, w_unpack, w_par, w_put, w_append, w_insert, w_pop, w_popTo, w_onl, l_l, w_putE, p_l, p_k, w_expr, w_ret, w_retN, w_ite, w_wh, w_for, w_brk, w_cont, w_pass, a_ii, a_ss, a_ll, a_tt, s_ii, m_ii, d_ii, r_ii, t_none, t_bool, t_int, t_list, t_tuple, n_int, lt_ii, le_ii, gt_ii, ge_ii, eq_ii, ne_ii, eq_bb, ne_bb, is_bb, isn_bb, i_li, i_ti, sq_l, sq_t, sq_s, ll_l, as_l, as_t, ip_i, b_lenl, b_lent, b_lens, b_abs, b_inti, b_intb, b_tl, b_isb, b_isl, b_ist, b_isi, b_isbi, l_nx, l_ct, l_bk, l_rt, slot_l, slot_k, slot_d, Option.bind_some, Option.bind_none, List.getElem?_cons_zero, List.getElem?_cons_succ, List.set_cons_zero, List.set_cons_succ, at0, at1, at2, isLst, isOwn, true_and, and_true, Bool.not_true, Bool.not_false, decide_true, decide_false, o_ite, o_iteP, p64, p50, p40, p11, p11b, p12, p6, dk2, dk3, dk4, dk5, dk7, dk8, dk10, dk16, dk32, dk64, dk128, dk1024, dk2048, dk42, dk60, dk9, dk6, asg, setAll, wipeE, reduceIte, eq_self, ite_true, ite_false, b_sum, b_sum2, es_ee, nes_ee, es_ep, nes_ep, es_et, nes_et, es_pe, nes_pe, es_pp, nes_pp, es_pt, nes_pt, es_te, nes_te, es_tp, nes_tp, es_tt, nes_tt, o_last, la_l, dk0_int, dk0_str, nl_none, nl_int, nl_var, nl_bin, nl_neg, nl_idx, nl_bi, pt_t, pt_f, sl_l, sl_t, mul_li, b_isbl, view_d, Option.map_some, tyD, mtTy, view_o, tyD_dic, pairD]
    · rw [hz.map_eq]
      simp [slot_l, WO]
def wl (nums : List Int) : Pl → List (Int × Int)
  | .fin _ => []
  | .pick _ gs => gs.foldl (fun l g => putw l (cl nums g) 1) []
  | .throw _ ws => assoc nums ws []
theorem pick_spec (nums : List Int) : ∀ (gs : List Int) (l : List (Int × Int)), (∀ k, k ∈ (gs.foldl (fun l g => putw l (cl nums g) 1) l).map (·.1) ↔ k ∈ l.map (·.1) ∨ k ∈ gs.map (cl nums)) ∧ ((l.map (·.1)).Nodup → ((gs.foldl (fun l g => putw l (cl nums g) 1) l).map (·.1)).Nodup) ∧
    ((∀ k ∈ l.map (·.1), lk l k = 1) → ∀ k ∈ (gs.foldl (fun l g => putw l (cl nums g) 1) l).map (·.1), lk (gs.foldl (fun l g => putw l (cl nums g) 1) l) k = 1) ∧ (gs.foldl (fun l g => putw l (cl nums g) 1) l).length ≤ l.length + gs.length
  | [], l => ⟨fun k => by simp, id, id, by simp⟩
  | g :: gs, l => by
    obtain ⟨k1, k2⟩ := keys_putw (cl nums g) 1 l
    obtain ⟨h1, h2, h3, h4⟩ := pick_spec nums gs (putw l (cl nums g) 1)
    simp only [List.foldl_cons]
    refine ⟨fun k => ?_, fun nd => h2 (k2 nd), fun h => h3 fun k hk => ?_, ?_⟩
    · rw [h1, k1]
      simp only [List.map_cons, List.mem_cons]
      constructor
      · rintro ((h | h) | h)
        · exact .inr (.inl h)
        · exact .inl h
        · exact .inr (.inr h)
      · rintro (h | h | h)
        · exact .inl (.inr h)
        · exact .inl (.inl h)
        · exact .inr h
    · rw [lk_putw]
      split
      · rfl
      · rename_i hne
        rcases (k1 k).mp hk with h' | h'
        · exact absurd h' hne
        · exact h k h'
    · have := putw_len l (cl nums g) 1
      simp only [List.length_cons]
      omega
theorem assoc_len (nums : List Int) : ∀ (ws l : List (Int × Int)), (assoc nums ws l).length ≤ l.length + ws.length
  | [], l => by simp [assoc]
  | w :: ws, l => by
    have h := assoc_len nums ws (putw l (cl nums w.2) (lk l (cl nums w.2) + w.1))
    have := putw_len l (cl nums w.2) (lk l (cl nums w.2) + w.1)
    simp only [assoc, List.foldl_cons, List.length_cons] at h ⊢
    omega
theorem weights {Φ : Fns} {p : Pl} {nums : List Int} (hp : OkP nums.length p) : R0 (run Φ D15 [p.enc, iL nums]) fun x => x = dictOf (kvN (wl nums p)) := by
  refine w_run ?_
  have k0 : (SV.dic []) = .dic (kvN []) := rfl
  cases p with
  | fin v => simp only [startE, List.map_cons, List.map_nil, List.length_cons, List.length_nil, List.replicate, List.cons_append, List.nil_append, Nat.reduceAdd, Nat.reduceSub, w_ok, w_bind, w_ofO, o_some, o_map, o_bind, i_t, i_f, i_d, i_not, w_lit, w_glob, w_var, v_d, v_l, v_k, o_both, w_bin, w_neg, w_tru, w_not, w_and, w_or, w_cmp, w_chain, w_ife, w_call, w_bi, w_get2, w_mt, w_idx, w_slice, w_tuple, w_fr, ws_nil, ws_cons, wo_list, wo_listOf, wo_dict0, wo_dict1, wo_comp, wi_seq, wi_range1, wi_range2, wi_enum, wi_zip, wi_rev, wi_keys, w_lookf, w_lookt, w_frd, w_fro, f_l, f_k, w_fa0, w_fa1, o_view, o_viewd, o_views0, o_views1, uc_int, uc_bool, uc_str, uc_none, uc_list, uc_tuple, k_nx, k_bk, k_ct, k_rt, w_nil, w_cons, w_set, w_own, w_unpack, w_par, w_put, w_append, w_insert, w_pop, w_popTo, w_onl, l_l, w_putE, p_l, p_k, w_expr, w_ret, w_retN, w_ite, w_wh, w_for, w_brk, w_cont, w_pass, a_ii, a_ss, a_ll, a_tt, s_ii, m_ii, d_ii, r_ii, t_none, t_bool, t_int, t_list, t_tuple, n_int, lt_ii, le_ii, gt_ii, ge_ii, eq_ii, ne_ii, eq_bb, ne_bb, is_bb, isn_bb, i_li, i_ti, sq_l, sq_t, sq_s, ll_l, as_l, as_t, ip_i, b_lenl, b_lent, b_lens, b_abs, b_inti, b_intb, b_tl, b_isb, b_isl, b_ist, b_isi, b_isbi, l_nx, l_ct, l_bk, l_rt, slot_l, slot_k, slot_d, Option.bind_some, Option.bind_none, List.getElem?_cons_zero, List.getElem?_cons_succ, List.set_cons_zero, List.set_cons_succ, at0, at1, at2, isLst, isOwn, true_and, and_true, Bool.not_true, Bool.not_false, decide_true, decide_false, o_ite, o_iteP, p64, p50, p40, p11, p11b, p12, p6, dk2, dk3, dk4, dk5, dk7, dk8, dk10, dk16, dk32, dk64, dk128, dk1024, dk2048, dk42, dk60, dk9, dk6, asg, setAll, wipeE, reduceIte, eq_self, ite_true, ite_false, b_sum, b_sum2, es_ee, nes_ee, es_ep, nes_ep, es_et, nes_et, es_pe, nes_pe, es_pp, nes_pp, es_pt, nes_pt, es_te, nes_te, es_tp, nes_tp, es_tt, nes_tt, o_last, la_l, dk0_int, dk0_str, nl_none, nl_int, nl_var, nl_bin, nl_neg, nl_idx, nl_bi, pt_t, pt_f, sl_l, sl_t, mul_li, b_isbl, view_d, Option.map_some, tyD, mtTy, view_o, tyD_dic , enc_fin, wl]; rfl
  | pick q gs =>
    simp only [startE, List.map_cons, List.map_nil, List.length_cons, List.length_nil, List.replicate, List.cons_append, List.nil_append, Nat.reduceAdd, Nat.reduceSub, w_ok, w_bind, w_ofO, o_some, o_map, o_bind, i_t, i_f, i_not, w_lit, w_glob, w_var, v_d, v_l, v_k, o_both, w_bin, w_neg, w_tru, w_not, w_and, w_or, w_cmp, w_chain, w_ife, w_call, w_bi, w_get2, w_mt, w_idx, w_slice, w_tuple, w_fr, ws_nil, ws_cons, wo_list, wo_listOf, wo_dict0, wo_dict1, wo_comp, wi_seq, wi_range1, wi_range2, wi_enum, wi_zip, wi_rev, wi_keys, w_lookf, w_lookt, w_frd, w_fro, f_l, f_k, w_fa0, w_fa1, o_view, o_viewd, o_views0, o_views1, uc_int, uc_bool, uc_str, uc_none, uc_list, uc_tuple, k_bk, k_ct, k_rt, w_nil, w_cons, w_set, w_own, w_unpack, w_par, w_put, w_append, w_insert, w_pop, w_popTo, w_onl, l_l, w_putE, p_l, p_k, w_expr, w_ret, w_retN, w_ite, w_wh, w_for, w_brk, w_cont, w_pass, a_ii, a_ss, a_ll, a_tt, s_ii, m_ii, d_ii, r_ii, t_none, t_bool, t_int, t_list, t_tuple, n_int, lt_ii, le_ii, gt_ii, ge_ii, eq_ii, ne_ii, eq_bb, ne_bb, is_bb, isn_bb, i_li, i_ti, sq_l, sq_t, sq_s, ll_l, as_l, as_t, ip_i, b_lenl, b_lent, b_lens, b_abs, b_inti, b_intb, b_tl, b_isb, b_isl, b_ist, b_isi, b_isbi, l_nx, l_ct, l_bk, l_rt, slot_l, slot_k, slot_d, Option.bind_some, Option.bind_none, List.getElem?_cons_zero, List.getElem?_cons_succ, List.set_cons_zero, List.set_cons_succ, at0, at1, at2, isLst, isOwn, true_and, and_true, Bool.not_true, Bool.not_false, decide_true, decide_false, o_ite, o_iteP, p64, p50, p40, p11, p11b, p12, p6, dk2, dk3, dk4, dk5, dk7, dk8, dk10, dk16, dk32, dk64, dk128, dk1024, dk2048, dk42, dk60, dk9, dk6, asg, setAll, wipeE, reduceIte, eq_self, ite_true, ite_false, b_sum, b_sum2, es_ee, nes_ee, es_ep, nes_ep, es_et, nes_et, es_pe, nes_pe, es_pp, nes_pp, es_pt, nes_pt, es_te, nes_te, es_tp, nes_tp, es_tt, nes_tt, o_last, la_l, dk0_int, dk0_str, nl_none, nl_int, nl_var, nl_bin, nl_neg, nl_idx, nl_bi, pt_t, pt_f, sl_l, sl_t, mul_li, b_isbl, view_d, Option.map_some, tyD, mtTy, view_o, tyD_dic, enc_pick]
    rw [k_nx]
    simp only [startE, List.map_cons, List.map_nil, List.length_cons, List.length_nil, List.replicate, List.cons_append, List.nil_append, Nat.reduceAdd, Nat.reduceSub, w_ok, w_bind, w_ofO, o_some, o_map, o_bind, i_t, i_f, i_not, w_lit, w_glob, w_var, v_d, v_l, v_k, o_both, w_bin, w_neg, w_tru, w_not, w_and, w_or, w_cmp, w_chain, w_ife, w_call, w_bi, w_get2, w_mt, w_idx, w_slice, w_tuple, w_fr, ws_nil, ws_cons, wo_list, wo_listOf, wo_dict0, wo_dict1, wo_comp, wi_seq, wi_range1, wi_range2, wi_enum, wi_zip, wi_rev, wi_keys, w_lookf, w_lookt, w_frd, w_fro, f_l, f_k, w_fa0, w_fa1, o_view, o_viewd, o_views0, o_views1, uc_int, uc_bool, uc_str, uc_none, uc_list, uc_tuple, k_bk, k_ct, k_rt, w_nil, w_cons, w_set, w_own, w_unpack, w_par, w_put, w_append, w_insert, w_pop, w_popTo, w_onl, l_l, w_putE, p_l, p_k, w_expr, w_ret, w_retN, w_ite, w_wh, w_for, w_brk, w_cont, w_pass, a_ii, a_ss, a_ll, a_tt, s_ii, m_ii, d_ii, r_ii, t_none, t_bool, t_int, t_list, t_tuple, n_int, lt_ii, le_ii, gt_ii, ge_ii, eq_ii, ne_ii, eq_bb, ne_bb, is_bb, isn_bb, i_li, i_ti, sq_l, sq_t, sq_s, ll_l, as_l, as_t, ip_i, b_lenl, b_lent, b_lens, b_abs, b_inti, b_intb, b_tl, b_isb, b_isl, b_ist, b_isi, b_isbi, l_nx, l_ct, l_bk, l_rt, slot_l, slot_k, slot_d, Option.bind_some, Option.bind_none, List.getElem?_cons_zero, List.getElem?_cons_succ, List.set_cons_zero, List.set_cons_succ, at0, at1, at2, isLst, isOwn, true_and, and_true, Bool.not_true, Bool.not_false, decide_true, decide_false, o_ite, o_iteP, p64, p50, p40, p11, p11b, p12, p6, dk2, dk3, dk4, dk5, dk7, dk8, dk10, dk16, dk32, dk64, dk128, dk1024, dk2048, dk42, dk60, dk9, dk6, asg, setAll, wipeE, reduceIte, eq_self, ite_true, ite_false, b_sum, b_sum2, es_ee, nes_ee, es_ep, nes_ep, es_et, nes_et, es_pe, nes_pe, es_pp, nes_pp, es_pt, nes_pt, es_te, nes_te, es_tp, nes_tp, es_tt, nes_tt, o_last, la_l, dk0_int, dk0_str, nl_none, nl_int, nl_var, nl_bin, nl_neg, nl_idx, nl_bi, pt_t, pt_f, sl_l, sl_t, mul_li, b_isbl, view_d, Option.map_some, tyD, mtTy, view_o, tyD_dic]
    rw [k0]
    refine w_each gs PyData.int (fun k ρ => ∃ a, ρ = [.d (Pl.pick q gs).enc, .d (iL nums), .dic (kvN ((gs.take k).foldl (fun l g => putw l (cl nums g) 1) [])), a, .unb]) ⟨_, rfl⟩ ?_ ?_
    · rintro k g ρ hg ⟨a, rfl⟩
      have gb := hp.2 g (List.mem_of_getElem? hg)
      have hl := (pick_spec nums (gs.take k) []).2.2.2
      have tl : (gs.take k).length ≤ gs.length := by rw [List.length_take]; omega
      have gl := hp.1
      simp only [startE, List.map_cons, List.map_nil, List.length_cons, List.length_nil, List.replicate, List.cons_append, List.nil_append, Nat.reduceAdd, Nat.reduceSub, w_ok, w_bind, w_ofO, o_some, o_map, o_bind, i_t, i_f, i_not, w_lit, w_glob, w_var, v_d, v_l, v_k, o_both, w_bin, w_neg, w_tru, w_not, w_and, w_or, w_cmp, w_chain, w_ife, w_call, w_bi, w_get2, w_mt, w_idx, w_slice, w_tuple, w_fr, ws_nil, ws_cons, wo_list, wo_listOf, wo_dict0, wo_dict1, wo_comp, wi_seq, wi_range1, wi_range2, wi_enum, wi_zip, wi_rev, wi_keys, w_lookf, w_lookt, w_frd, w_fro, f_l, f_k, w_fa0, w_fa1, o_view, o_viewd, o_views0, o_views1, uc_int, uc_bool, uc_str, uc_none, uc_list, uc_tuple, k_bk, k_ct, k_rt, w_nil, w_cons, w_set, w_own, w_unpack, w_par, w_put, w_append, w_insert, w_pop, w_popTo, w_onl, l_l, w_putE, p_l, p_k, w_expr, w_ret, w_retN, w_ite, w_wh, w_for, w_brk, w_cont, w_pass, a_ii, a_ss, a_ll, a_tt, s_ii, m_ii, d_ii, r_ii, t_none, t_bool, t_int, t_list, t_tuple, n_int, lt_ii, le_ii, gt_ii, ge_ii, eq_ii, ne_ii, eq_bb, ne_bb, is_bb, isn_bb, i_li, i_ti, sq_l, sq_t, sq_s, ll_l, as_l, as_t, ip_i, b_lenl, b_lent, b_lens, b_abs, b_inti, b_intb, b_tl, b_isb, b_isl, b_ist, b_isi, b_isbi, l_nx, l_ct, l_bk, l_rt, slot_l, slot_k, slot_d, Option.bind_some, Option.bind_none, List.getElem?_cons_zero, List.getElem?_cons_succ, List.set_cons_zero, List.set_cons_succ, at0, at1, at2, isLst, isOwn, true_and, and_true, Bool.not_true, Bool.not_false, decide_true, decide_false, o_ite, o_iteP, p64, p50, p40, p11, p11b, p12, p6, dk2, dk3, dk4, dk5, dk7, dk8, dk10, dk16, dk32, dk64, dk128, dk1024, dk2048, dk42, dk60, dk9, dk6, asg, setAll, wipeE, reduceIte, eq_self, ite_true, ite_false, b_sum, b_sum2, es_ee, nes_ee, es_ep, nes_ep, es_et, nes_et, es_pe, nes_pe, es_pp, nes_pp, es_pt, nes_pt, es_te, nes_te, es_tp, nes_tp, es_tt, nes_tt, o_last, la_l, dk0_int, dk0_str, nl_none, nl_int, nl_var, nl_bin, nl_neg, nl_idx, nl_bi, pt_t, pt_f, sl_l, sl_t, mul_li, b_isbl, view_d, Option.map_some, tyD, mtTy, view_o, tyD_dic, at_cl gb, kvN_key, kvN_put]
      refine ⟨small_of (by rw [kvN_len]; simp at hl; omega), .d (.int g), ?_⟩
      rw [List.take_add_one, hg]
      simp [List.foldl_append, enc_pick]
    · rintro ρ ⟨a, rfl⟩
      rw [List.take_of_length_le (Nat.le_refl _), k_nx]
      simp only [startE, List.map_cons, List.map_nil, List.length_cons, List.length_nil, List.replicate, List.cons_append, List.nil_append, Nat.reduceAdd, Nat.reduceSub, w_ok, w_bind, w_ofO, o_some, o_map, o_bind, i_t, i_f, i_d, i_not, w_lit, w_glob, w_var, v_d, v_l, v_k, o_both, w_bin, w_neg, w_tru, w_not, w_and, w_or, w_cmp, w_chain, w_ife, w_call, w_bi, w_get2, w_mt, w_idx, w_slice, w_tuple, w_fr, ws_nil, ws_cons, wo_list, wo_listOf, wo_dict0, wo_dict1, wo_comp, wi_seq, wi_range1, wi_range2, wi_enum, wi_zip, wi_rev, wi_keys, w_lookf, w_lookt, w_frd, w_fro, f_l, f_k, w_fa0, w_fa1, o_view, o_viewd, o_views0, o_views1, uc_int, uc_bool, uc_str, uc_none, uc_list, uc_tuple, k_nx, k_bk, k_ct, k_rt, w_nil, w_cons, w_set, w_own, w_unpack, w_par, w_put, w_append, w_insert, w_pop, w_popTo, w_onl, l_l, w_putE, p_l, p_k, w_expr, w_ret, w_retN, w_ite, w_wh, w_for, w_brk, w_cont, w_pass, a_ii, a_ss, a_ll, a_tt, s_ii, m_ii, d_ii, r_ii, t_none, t_bool, t_int, t_list, t_tuple, n_int, lt_ii, le_ii, gt_ii, ge_ii, eq_ii, ne_ii, eq_bb, ne_bb, is_bb, isn_bb, i_li, i_ti, sq_l, sq_t, sq_s, ll_l, as_l, as_t, ip_i, b_lenl, b_lent, b_lens, b_abs, b_inti, b_intb, b_tl, b_isb, b_isl, b_ist, b_isi, b_isbi, l_nx, l_ct, l_bk, l_rt, slot_l, slot_k, slot_d, Option.bind_some, Option.bind_none, List.getElem?_cons_zero, List.getElem?_cons_succ, List.set_cons_zero, List.set_cons_succ, at0, at1, at2, isLst, isOwn, true_and, and_true, Bool.not_true, Bool.not_false, decide_true, decide_false, o_ite, o_iteP, p64, p50, p40, p11, p11b, p12, p6, dk2, dk3, dk4, dk5, dk7, dk8, dk10, dk16, dk32, dk64, dk128, dk1024, dk2048, dk42, dk60, dk9, dk6, asg, setAll, wipeE, reduceIte, eq_self, ite_true, ite_false, b_sum, b_sum2, es_ee, nes_ee, es_ep, nes_ep, es_et, nes_et, es_pe, nes_pe, es_pp, nes_pp, es_pt, nes_pt, es_te, nes_te, es_tp, nes_tp, es_tt, nes_tt, o_last, la_l, dk0_int, dk0_str, nl_none, nl_int, nl_var, nl_bin, nl_neg, nl_idx, nl_bi, pt_t, pt_f, sl_l, sl_t, mul_li, b_isbl, view_d, Option.map_some, tyD, mtTy, view_o, tyD_dic , enc_pick, wl]
  | throw v ws =>
    simp only [startE, List.map_cons, List.map_nil, List.length_cons, List.length_nil, List.replicate, List.cons_append, List.nil_append, Nat.reduceAdd, Nat.reduceSub, w_ok, w_bind, w_ofO, o_some, o_map, o_bind, i_t, i_f, i_not, w_lit, w_glob, w_var, v_d, v_l, v_k, o_both, w_bin, w_neg, w_tru, w_not, w_and, w_or, w_cmp, w_chain, w_ife, w_call, w_bi, w_get2, w_mt, w_idx, w_slice, w_tuple, w_fr, ws_nil, ws_cons, wo_list, wo_listOf, wo_dict0, wo_dict1, wo_comp, wi_seq, wi_range1, wi_range2, wi_enum, wi_zip, wi_rev, wi_keys, w_lookf, w_lookt, w_frd, w_fro, f_l, f_k, w_fa0, w_fa1, o_view, o_viewd, o_views0, o_views1, uc_int, uc_bool, uc_str, uc_none, uc_list, uc_tuple, k_bk, k_ct, k_rt, w_nil, w_cons, w_set, w_own, w_unpack, w_par, w_put, w_append, w_insert, w_pop, w_popTo, w_onl, l_l, w_putE, p_l, p_k, w_expr, w_ret, w_retN, w_ite, w_wh, w_for, w_brk, w_cont, w_pass, a_ii, a_ss, a_ll, a_tt, s_ii, m_ii, d_ii, r_ii, t_none, t_bool, t_int, t_list, t_tuple, n_int, lt_ii, le_ii, gt_ii, ge_ii, eq_ii, ne_ii, eq_bb, ne_bb, is_bb, isn_bb, i_li, i_ti, sq_l, sq_t, sq_s, ll_l, as_l, as_t, ip_i, b_lenl, b_lent, b_lens, b_abs, b_inti, b_intb, b_tl, b_isb, b_isl, b_ist, b_isi, b_isbi, l_nx, l_ct, l_bk, l_rt, slot_l, slot_k, slot_d, Option.bind_some, Option.bind_none, List.getElem?_cons_zero, List.getElem?_cons_succ, List.set_cons_zero, List.set_cons_succ, at0, at1, at2, isLst, isOwn, true_and, and_true, Bool.not_true, Bool.not_false, decide_true, decide_false, o_ite, o_iteP, p64, p50, p40, p11, p11b, p12, p6, dk2, dk3, dk4, dk5, dk7, dk8, dk10, dk16, dk32, dk64, dk128, dk1024, dk2048, dk42, dk60, dk9, dk6, asg, setAll, wipeE, reduceIte, eq_self, ite_true, ite_false, b_sum, b_sum2, es_ee, nes_ee, es_ep, nes_ep, es_et, nes_et, es_pe, nes_pe, es_pp, nes_pp, es_pt, nes_pt, es_te, nes_te, es_tp, nes_tp, es_tt, nes_tt, o_last, la_l, dk0_int, dk0_str, nl_none, nl_int, nl_var, nl_bin, nl_neg, nl_idx, nl_bi, pt_t, pt_f, sl_l, sl_t, mul_li, b_isbl, view_d, Option.map_some, tyD, mtTy, view_o, tyD_dic, enc_throw]
    rw [k_nx]
    simp only [startE, List.map_cons, List.map_nil, List.length_cons, List.length_nil, List.replicate, List.cons_append, List.nil_append, Nat.reduceAdd, Nat.reduceSub, w_ok, w_bind, w_ofO, o_some, o_map, o_bind, i_t, i_f, i_not, w_lit, w_glob, w_var, v_d, v_l, v_k, o_both, w_bin, w_neg, w_tru, w_not, w_and, w_or, w_cmp, w_chain, w_ife, w_call, w_bi, w_get2, w_mt, w_idx, w_slice, w_tuple, w_fr, ws_nil, ws_cons, wo_list, wo_listOf, wo_dict0, wo_dict1, wo_comp, wi_seq, wi_range1, wi_range2, wi_enum, wi_zip, wi_rev, wi_keys, w_lookf, w_lookt, w_frd, w_fro, f_l, f_k, w_fa0, w_fa1, o_view, o_viewd, o_views0, o_views1, uc_int, uc_bool, uc_str, uc_none, uc_list, uc_tuple, k_bk, k_ct, k_rt, w_nil, w_cons, w_set, w_own, w_unpack, w_par, w_put, w_append, w_insert, w_pop, w_popTo, w_onl, l_l, w_putE, p_l, p_k, w_expr, w_ret, w_retN, w_ite, w_wh, w_for, w_brk, w_cont, w_pass, a_ii, a_ss, a_ll, a_tt, s_ii, m_ii, d_ii, r_ii, t_none, t_bool, t_int, t_list, t_tuple, n_int, lt_ii, le_ii, gt_ii, ge_ii, eq_ii, ne_ii, eq_bb, ne_bb, is_bb, isn_bb, i_li, i_ti, sq_l, sq_t, sq_s, ll_l, as_l, as_t, ip_i, b_lenl, b_lent, b_lens, b_abs, b_inti, b_intb, b_tl, b_isb, b_isl, b_ist, b_isi, b_isbi, l_nx, l_ct, l_bk, l_rt, slot_l, slot_k, slot_d, Option.bind_some, Option.bind_none, List.getElem?_cons_zero, List.getElem?_cons_succ, List.set_cons_zero, List.set_cons_succ, at0, at1, at2, isLst, isOwn, true_and, and_true, Bool.not_true, Bool.not_false, decide_true, decide_false, o_ite, o_iteP, p64, p50, p40, p11, p11b, p12, p6, dk2, dk3, dk4, dk5, dk7, dk8, dk10, dk16, dk32, dk64, dk128, dk1024, dk2048, dk42, dk60, dk9, dk6, asg, setAll, wipeE, reduceIte, eq_self, ite_true, ite_false, b_sum, b_sum2, es_ee, nes_ee, es_ep, nes_ep, es_et, nes_et, es_pe, nes_pe, es_pp, nes_pp, es_pt, nes_pt, es_te, nes_te, es_tp, nes_tp, es_tt, nes_tt, o_last, la_l, dk0_int, dk0_str, nl_none, nl_int, nl_var, nl_bin, nl_neg, nl_idx, nl_bi, pt_t, pt_f, sl_l, sl_t, mul_li, b_isbl, view_d, Option.map_some, tyD, mtTy, view_o, tyD_dic]
    rw [k_nx]
    simp only [startE, List.map_cons, List.map_nil, List.length_cons, List.length_nil, List.replicate, List.cons_append, List.nil_append, Nat.reduceAdd, Nat.reduceSub, w_ok, w_bind, w_ofO, o_some, o_map, o_bind, i_t, i_f, i_not, w_lit, w_glob, w_var, v_d, v_l, v_k, o_both, w_bin, w_neg, w_tru, w_not, w_and, w_or, w_cmp, w_chain, w_ife, w_call, w_bi, w_get2, w_mt, w_idx, w_slice, w_tuple, w_fr, ws_nil, ws_cons, wo_list, wo_listOf, wo_dict0, wo_dict1, wo_comp, wi_seq, wi_range1, wi_range2, wi_enum, wi_zip, wi_rev, wi_keys, w_lookf, w_lookt, w_frd, w_fro, f_l, f_k, w_fa0, w_fa1, o_view, o_viewd, o_views0, o_views1, uc_int, uc_bool, uc_str, uc_none, uc_list, uc_tuple, k_bk, k_ct, k_rt, w_nil, w_cons, w_set, w_own, w_unpack, w_par, w_put, w_append, w_insert, w_pop, w_popTo, w_onl, l_l, w_putE, p_l, p_k, w_expr, w_ret, w_retN, w_ite, w_wh, w_for, w_brk, w_cont, w_pass, a_ii, a_ss, a_ll, a_tt, s_ii, m_ii, d_ii, r_ii, t_none, t_bool, t_int, t_list, t_tuple, n_int, lt_ii, le_ii, gt_ii, ge_ii, eq_ii, ne_ii, eq_bb, ne_bb, is_bb, isn_bb, i_li, i_ti, sq_l, sq_t, sq_s, ll_l, as_l, as_t, ip_i, b_lenl, b_lent, b_lens, b_abs, b_inti, b_intb, b_tl, b_isb, b_isl, b_ist, b_isi, b_isbi, l_nx, l_ct, l_bk, l_rt, slot_l, slot_k, slot_d, Option.bind_some, Option.bind_none, List.getElem?_cons_zero, List.getElem?_cons_succ, List.set_cons_zero, List.set_cons_succ, at0, at1, at2, isLst, isOwn, true_and, and_true, Bool.not_true, Bool.not_false, decide_true, decide_false, o_ite, o_iteP, p64, p50, p40, p11, p11b, p12, p6, dk2, dk3, dk4, dk5, dk7, dk8, dk10, dk16, dk32, dk64, dk128, dk1024, dk2048, dk42, dk60, dk9, dk6, asg, setAll, wipeE, reduceIte, eq_self, ite_true, ite_false, b_sum, b_sum2, es_ee, nes_ee, es_ep, nes_ep, es_et, nes_et, es_pe, nes_pe, es_pp, nes_pp, es_pt, nes_pt, es_te, nes_te, es_tp, nes_tp, es_tt, nes_tt, o_last, la_l, dk0_int, dk0_str, nl_none, nl_int, nl_var, nl_bin, nl_neg, nl_idx, nl_bi, pt_t, pt_f, sl_l, sl_t, mul_li, b_isbl, view_d, Option.map_some, tyD, mtTy, view_o, tyD_dic]
    rw [k0]
    refine w_each ws pairD (fun k ρ => ∃ a b, ρ = [.d (Pl.throw v ws).enc, .d (iL nums), .dic (kvN (assoc nums (ws.take k) [])), a, b]) ⟨_, _, rfl⟩ ?_ ?_
    · rintro k ⟨w, g⟩ ρ hg ⟨a, b, rfl⟩
      have gb := hp.1 _ (List.mem_of_getElem? hg)
      have hl := assoc_len nums (ws.take k) []
      have tl : (ws.take k).length ≤ ws.length := by rw [List.length_take]; omega
      have gl := hp.2.1
      simp only [startE, List.map_cons, List.map_nil, List.length_cons, List.length_nil, List.replicate, List.cons_append, List.nil_append, Nat.reduceAdd, Nat.reduceSub, w_ok, w_bind, w_ofO, o_some, o_map, o_bind, i_t, i_f, i_not, w_lit, w_glob, w_var, v_d, v_l, v_k, o_both, w_bin, w_neg, w_tru, w_not, w_and, w_or, w_cmp, w_chain, w_ife, w_call, w_bi, w_get2, w_mt, w_idx, w_slice, w_tuple, w_fr, ws_nil, ws_cons, wo_list, wo_listOf, wo_dict0, wo_dict1, wo_comp, wi_seq, wi_range1, wi_range2, wi_enum, wi_zip, wi_rev, wi_keys, w_lookf, w_lookt, w_frd, w_fro, f_l, f_k, w_fa0, w_fa1, o_view, o_viewd, o_views0, o_views1, uc_int, uc_bool, uc_str, uc_none, uc_list, uc_tuple, k_bk, k_ct, k_rt, w_nil, w_cons, w_set, w_own, w_unpack, w_par, w_put, w_append, w_insert, w_pop, w_popTo, w_onl, l_l, w_putE, p_l, p_k, w_expr, w_ret, w_retN, w_ite, w_wh, w_for, w_brk, w_cont, w_pass, a_ii, a_ss, a_ll, a_tt, s_ii, m_ii, d_ii, r_ii, t_none, t_bool, t_int, t_list, t_tuple, n_int, lt_ii, le_ii, gt_ii, ge_ii, eq_ii, ne_ii, eq_bb, ne_bb, is_bb, isn_bb, i_li, i_ti, sq_l, sq_t, sq_s, ll_l, as_l, as_t, ip_i, b_lenl, b_lent, b_lens, b_abs, b_inti, b_intb, b_tl, b_isb, b_isl, b_ist, b_isi, b_isbi, l_nx, l_ct, l_bk, l_rt, slot_l, slot_k, slot_d, Option.bind_some, Option.bind_none, List.getElem?_cons_zero, List.getElem?_cons_succ, List.set_cons_zero, List.set_cons_succ, at0, at1, at2, isLst, isOwn, true_and, and_true, Bool.not_true, Bool.not_false, decide_true, decide_false, o_ite, o_iteP, p64, p50, p40, p11, p11b, p12, p6, dk2, dk3, dk4, dk5, dk7, dk8, dk10, dk16, dk32, dk64, dk128, dk1024, dk2048, dk42, dk60, dk9, dk6, asg, setAll, wipeE, reduceIte, eq_self, ite_true, ite_false, b_sum, b_sum2, es_ee, nes_ee, es_ep, nes_ep, es_et, nes_et, es_pe, nes_pe, es_pp, nes_pp, es_pt, nes_pt, es_te, nes_te, es_tp, nes_tp, es_tt, nes_tt, o_last, la_l, dk0_int, dk0_str, nl_none, nl_int, nl_var, nl_bin, nl_neg, nl_idx, nl_bi, pt_t, pt_f, sl_l, sl_t, mul_li, b_isbl, view_d, Option.map_some, tyD, mtTy, view_o, tyD_dic, pairD, at_cl gb.2.2, kvN_key, kvN_put, get_dict, kvN_get]
      refine ⟨rfl, small_of (by rw [kvN_len]; simp at hl; omega), .d (.int g), .d (.int w), ?_⟩
      rw [List.take_add_one, hg]
      simp [assoc, List.foldl_append, enc_throw, pairD]
    · rintro ρ ⟨a, b, rfl⟩
      rw [List.take_of_length_le (Nat.le_refl _), k_nx]
      simp only [startE, List.map_cons, List.map_nil, List.length_cons, List.length_nil, List.replicate, List.cons_append, List.nil_append, Nat.reduceAdd, Nat.reduceSub, w_ok, w_bind, w_ofO, o_some, o_map, o_bind, i_t, i_f, i_d, i_not, w_lit, w_glob, w_var, v_d, v_l, v_k, o_both, w_bin, w_neg, w_tru, w_not, w_and, w_or, w_cmp, w_chain, w_ife, w_call, w_bi, w_get2, w_mt, w_idx, w_slice, w_tuple, w_fr, ws_nil, ws_cons, wo_list, wo_listOf, wo_dict0, wo_dict1, wo_comp, wi_seq, wi_range1, wi_range2, wi_enum, wi_zip, wi_rev, wi_keys, w_lookf, w_lookt, w_frd, w_fro, f_l, f_k, w_fa0, w_fa1, o_view, o_viewd, o_views0, o_views1, uc_int, uc_bool, uc_str, uc_none, uc_list, uc_tuple, k_nx, k_bk, k_ct, k_rt, w_nil, w_cons, w_set, w_own, w_unpack, w_par, w_put, w_append, w_insert, w_pop, w_popTo, w_onl, l_l, w_putE, p_l, p_k, w_expr, w_ret, w_retN, w_ite, w_wh, w_for, w_brk, w_cont, w_pass, a_ii, a_ss, a_ll, a_tt, s_ii, m_ii, d_ii, r_ii, t_none, t_bool, t_int, t_list, t_tuple, n_int, lt_ii, le_ii, gt_ii, ge_ii, eq_ii, ne_ii, eq_bb, ne_bb, is_bb, isn_bb, i_li, i_ti, sq_l, sq_t, sq_s, ll_l, as_l, as_t, ip_i, b_lenl, b_lent, b_lens, b_abs, b_inti, b_intb, b_tl, b_isb, b_isl, b_ist, b_isi, b_isbi, l_nx, l_ct, l_bk, l_rt, slot_l, slot_k, slot_d, Option.bind_some, Option.bind_none, List.getElem?_cons_zero, List.getElem?_cons_succ, List.set_cons_zero, List.set_cons_succ, at0, at1, at2, isLst, isOwn, true_and, and_true, Bool.not_true, Bool.not_false, decide_true, decide_false, o_ite, o_iteP, p64, p50, p40, p11, p11b, p12, p6, dk2, dk3, dk4, dk5, dk7, dk8, dk10, dk16, dk32, dk64, dk128, dk1024, dk2048, dk42, dk60, dk9, dk6, asg, setAll, wipeE, reduceIte, eq_self, ite_true, ite_false, b_sum, b_sum2, es_ee, nes_ee, es_ep, nes_ep, es_et, nes_et, es_pe, nes_pe, es_pp, nes_pp, es_pt, nes_pt, es_te, nes_te, es_tp, nes_tp, es_tt, nes_tt, o_last, la_l, dk0_int, dk0_str, nl_none, nl_int, nl_var, nl_bin, nl_neg, nl_idx, nl_bi, pt_t, pt_f, sl_l, sl_t, mul_li, b_isbl, view_d, Option.map_some, tyD, mtTy, view_o, tyD_dic , enc_throw, wl]
end K71
end VI
set_option Elab.async false
set_option linter.all false
set_option autoImplicit false
set_option maxRecDepth 20000
namespace VI
namespace K71
open PySem AL
def ks (nums : List Int) (p : Pl) : List Int := (wl nums p).map (·.1)
def tot (nums : List Int) (p : Pl) : Int := ((ks nums p).map (lk (wl nums p))).sum
def asb (nums : List Int) (p q : Pl) : Bool := decide (sortI (ks nums p) = sortI (ks nums q)) && decide ((ks nums p).filter (fun n => !decide (lk (wl nums p) n * tot nums q = lk (wl nums q) n * tot nums p)) = [])
section
variable {N : Nat} {nums : List Int}
theorem wt_le {ws : List (Int × Int)} (h : Okw N ws) (d : Int → Int) (k : Int) : wt d ws k ≤ wsum ws := by
  induction ws with
  | nil => simp [wt, wsum]
  | cons w ws ih =>
    have h1 := ih fun p hp => h p (List.mem_cons_of_mem _ hp)
    have h2 := (h w List.mem_cons_self).1
    rw [wt_cons]
    have : wsum (w :: ws) = w.1 + wsum ws := by simp [wsum]
    rw [this]
    split <;> omega
theorem throw_facts {v : Int × Int} {ws : List (Int × Int)} (h : Okw N ws) : (ks nums (.throw v ws)).Nodup ∧ (∀ k, k ∈ ks nums (.throw v ws) ↔ ∃ p ∈ ws, cl nums p.2 = k) ∧ (∀ k, lk (wl nums (.throw v ws)) k = wt (cl nums) ws k) ∧ tot nums (.throw v ws) = wsum ws := by
  obtain ⟨a1, a2, a3⟩ := assoc_spec nums ws []
  have nd : (ks nums (.throw v ws)).Nodup := a3 (by simp)
  have mem : ∀ k, k ∈ ks nums (.throw v ws) ↔ ∃ p ∈ ws, cl nums p.2 = k := fun k => by
    rw [show k ∈ ks nums (.throw v ws) ↔ _ from a2 k]
    simp
  have lkw : ∀ k, lk (wl nums (.throw v ws)) k = wt (cl nums) ws k := fun k => by
    have : lk (wl nums (.throw v ws)) k = _ := a1 k
    rw [this]
    simp [lk]
  refine ⟨nd, mem, lkw, ?_⟩
  unfold tot
  rw [List.map_congr_left fun k _ => lkw k]
  have g := wt_group (cl nums) (fun _ => 0) (fun _ => 0) (ks nums (.throw v ws)) nd 0 ws fun p hp => ⟨(mem _).mpr ⟨p, hp, rfl⟩, rfl⟩
  have e1 : wt (fun _ => (0 : Int)) ws 0 = wsum ws := by
    unfold wt wsum
    rw [List.filter_eq_self.mpr (by simp)]
  rw [e1] at g
  rw [g, List.filter_eq_self.mpr (by simp)]
theorem pick_facts {q : Int} {gs : List Int} : (ks nums (.pick q gs)).Nodup ∧ (∀ k, k ∈ ks nums (.pick q gs) ↔ ∃ g ∈ gs, cl nums g = k) ∧ (∀ k ∈ ks nums (.pick q gs), lk (wl nums (.pick q gs)) k = 1) ∧ tot nums (.pick q gs) = (ks nums (.pick q gs)).length ∧ (ks nums (.pick q gs)).length ≤ gs.length := by
  obtain ⟨a1, a2, a3, a4⟩ := pick_spec nums gs []
  have one := a3 (by simp)
  refine ⟨a2 (by simp), fun k => ?_, one, ?_, ?_⟩
  · rw [show k ∈ ks nums (.pick q gs) ↔ _ from a1 k]
    simp
  · unfold tot
    have e : (ks nums (.pick q gs)).map (lk (wl nums (.pick q gs))) = (ks nums (.pick q gs)).map fun _ => (1 : Int) := List.map_congr_left one
    rw [e]
    have : ∀ l : List Int, (l.map fun _ => (1 : Int)).sum = l.length := fun l => by
      induction l with
      | nil => rfl
      | cons x l ih => rw [List.map_cons, List.sum_cons, ih]; simp; omega
    exact this _
  · simp only [ks, List.length_map]
    simpa [wl] using a4
theorem wl_bd {p : Pl} (hp : OkP N p) : (ks nums p).length ≤ 1000 ∧ (∀ k ∈ ks nums p, 0 ≤ lk (wl nums p) k ∧ lk (wl nums p) k ≤ 1099511627776000) ∧ 0 ≤ tot nums p ∧ tot nums p ≤ 1099511627776000 := by
  cases p with
  | fin v => exact ⟨by simp [ks, wl], fun k hk => by simp [ks, wl] at hk, by simp [tot, ks, wl], by simp [tot, ks, wl]⟩
  | pick q gs =>
    obtain ⟨h1, h2, h3, h4, h5⟩ := pick_facts (nums := nums) (q := q) (gs := gs)
    have := hp.1
    exact ⟨by omega, fun k hk => by rw [h3 k hk]; omega, by rw [h4]; omega, by rw [h4]; omega⟩
  | throw v ws =>
    obtain ⟨h1, h2, h3, h4⟩ := throw_facts (nums := nums) (v := v) hp.1
    have s := sum_pos ws fun p hp' => ⟨(hp.1 p hp').1, (hp.1 p hp').2.1⟩
    have l1 := hp.2.1
    have l2 := assoc_len nums ws []
    have b : wsum ws ≤ 1099511627776000 := by
      have e : (2 : Int) ^ 40 = 1099511627776 := by decide
      rw [e] at s
      omega
    refine ⟨by simp only [ks, List.length_map, wl]; simp at l2; omega, fun k hk => ?_, by rw [h4]; omega, by rw [h4]; exact b⟩
    rw [h3]
    have := wt_le hp.1 (cl nums) k
    exact ⟨(wt_nn hp.1 _ k).1, by omega⟩
theorem asb_iff {p q : Pl} (hp : OkP N p) (hq : OkP N q) (hk : sameKind p q) : asb nums p q = true ↔ inner nums p = inner nums q := by
  rw [inner_iff hp hq hk]
  unfold asb
  rw [Bool.and_eq_true, decide_eq_true_eq, decide_eq_true_eq, List.filter_eq_nil_iff]
  match p, q, hk, hp, hq with
  | .fin v, .fin u, _, _, _ => exact ⟨fun _ => trivial, fun _ => ⟨rfl, fun k hk => by simp [ks, wl] at hk⟩⟩
  | .pick r gs, .pick s hs, _, hp, hq =>
    obtain ⟨n1, m1, o1, t1, _⟩ := pick_facts (nums := nums) (q := r) (gs := gs)
    obtain ⟨n2, m2, o2, t2, _⟩ := pick_facts (nums := nums) (q := s) (gs := hs)
    show _ ↔ ∀ k, (∃ g ∈ gs, cl nums g = k) ↔ ∃ g ∈ hs, cl nums g = k
    constructor
    · rintro ⟨h, _⟩ k
      rw [← m1, ← m2, ← sort_mem, ← sort_mem (ks nums (.pick s hs)), h]
    · intro h
      have mm : ∀ k, k ∈ ks nums (.pick r gs) ↔ k ∈ ks nums (.pick s hs) := fun k => by rw [m1, m2]; exact h k
      have e := sort_ext n1 n2 mm
      refine ⟨e, fun k hk => ?_⟩
      have len : (ks nums (.pick r gs)).length = (ks nums (.pick s hs)).length := by
        have := congrArg List.length e
        simpa [sortI] using this
      rw [o1 k hk, o2 k ((mm k).mp hk), t1, t2, len]
      simp
  | .throw v ws, .throw u vs, _, hp, hq =>
    obtain ⟨n1, m1, o1, t1⟩ := throw_facts (nums := nums) (v := v) hp.1
    obtain ⟨n2, m2, o2, t2⟩ := throw_facts (nums := nums) (v := u) hq.1
    have p1 := wsum_pos hp.1 hp.2.2
    have p2 := wsum_pos hq.1 hq.2.2
    show _ ↔ ∀ k, wt (cl nums) ws k * wsum vs = wt (cl nums) vs k * wsum ws
    rw [t1, t2]
    constructor
    · rintro ⟨h, h2⟩ k
      by_cases hk : k ∈ ks nums (.throw v ws)
      · have := h2 k hk
        rw [o1, o2] at this
        simpa using this
      · have hk2 : k ∉ ks nums (.throw u vs) := fun z => hk (by rw [← sort_mem, h, sort_mem]; exact z)
        have z1 : wt (cl nums) ws k = 0 := by
          have a := wt_nn hp.1 (cl nums) k
          have : ¬ 0 < wt (cl nums) ws k := fun z => hk ((m1 k).mpr (a.2.mpr z))
          omega
        have z2 : wt (cl nums) vs k = 0 := by
          have a := wt_nn hq.1 (cl nums) k
          have : ¬ 0 < wt (cl nums) vs k := fun z => hk2 ((m2 k).mpr (a.2.mpr z))
          omega
        rw [z1, z2, Int.zero_mul, Int.zero_mul]
    · intro h
      have mm : ∀ k, k ∈ ks nums (.throw v ws) ↔ k ∈ ks nums (.throw u vs) := fun k => by
        rw [m1, m2, (wt_nn hp.1 (cl nums) k).2, (wt_nn hq.1 (cl nums) k).2]
        have e := h k
        have a := (wt_nn hp.1 (cl nums) k).1
        have b := (wt_nn hq.1 (cl nums) k).1
        constructor
        · intro z
          have := Int.mul_pos z p2
          rw [e] at this
          by_cases hz : wt (cl nums) vs k = 0
          · rw [hz] at this; omega
          · omega
        · intro z
          have := Int.mul_pos z p1
          rw [← e] at this
          by_cases hz : wt (cl nums) ws k = 0
          · rw [hz] at this; omega
          · omega
      refine ⟨sort_ext n1 n2 mm, fun k _ => ?_⟩
      rw [o1, o2, h k]
      simp
end
theorem asone {Φ : Fns} {p q : Pl} {nums : List Int} (hp : OkP nums.length p) (hq : OkP nums.length q) (h15 : ∀ p : Pl, OkP nums.length p → R0 (Φ 15 [p.enc, iL nums]) fun x => x = dictOf (kvN (wl nums p))) :
    R0 (run Φ D16 [p.enc, q.enc, iL nums]) fun x => x = .bool (asb nums p q) := by
  have mm : (1000 : Nat) ≤ most := by decide
  obtain ⟨b1, b2, b3, b4⟩ := wl_bd (nums := nums) hp
  obtain ⟨c1, c2, c3, c4⟩ := wl_bd (nums := nums) hq
  refine w_run ?_
  simp only [startE, List.map_cons, List.map_nil, List.length_cons, List.length_nil, List.replicate, List.cons_append, List.nil_append, Nat.reduceAdd, Nat.reduceSub, w_ok, w_bind, w_ofO, o_some, o_map, o_bind, i_t, i_f, i_not, w_lit, w_glob, w_var, v_d, v_l, v_k, o_both, w_bin, w_neg, w_tru, w_not, w_and, w_or, w_cmp, w_chain, w_ife, w_call, w_bi, w_get2, w_mt, w_idx, w_slice, w_tuple, w_fr, ws_nil, ws_cons, wo_list, wo_listOf, wo_dict0, wo_dict1, wo_comp, wi_seq, wi_range1, wi_range2, wi_enum, wi_zip, wi_rev, wi_keys, w_lookf, w_lookt, w_frd, w_fro, f_l, f_k, w_fa0, w_fa1, o_view, o_viewd, o_views0, o_views1, uc_int, uc_bool, uc_str, uc_none, uc_list, uc_tuple, k_bk, k_ct, k_rt, w_nil, w_cons, w_set, w_own, w_unpack, w_par, w_put, w_append, w_insert, w_pop, w_popTo, w_onl, l_l, w_putE, p_l, p_k, w_expr, w_ret, w_retN, w_ite, w_wh, w_for, w_brk, w_cont, w_pass, a_ii, a_ss, a_ll, a_tt, s_ii, m_ii, d_ii, r_ii, t_none, t_bool, t_int, t_list, t_tuple, n_int, lt_ii, le_ii, gt_ii, ge_ii, eq_ii, ne_ii, eq_bb, ne_bb, is_bb, isn_bb, i_li, i_ti, sq_l, sq_t, sq_s, ll_l, as_l, as_t, ip_i, b_lenl, b_lent, b_lens, b_abs, b_inti, b_intb, b_tl, b_isb, b_isl, b_ist, b_isi, b_isbi, l_nx, l_ct, l_bk, l_rt, slot_l, slot_k, slot_d, Option.bind_some, Option.bind_none, List.getElem?_cons_zero, List.getElem?_cons_succ, List.set_cons_zero, List.set_cons_succ, at0, at1, at2, isLst, isOwn, true_and, and_true, Bool.not_true, Bool.not_false, decide_true, decide_false, o_ite, o_iteP, p64, p50, p40, p11, p11b, p12, p6, dk2, dk3, dk4, dk5, dk7, dk8, dk10, dk16, dk32, dk64, dk128, dk1024, dk2048, dk42, dk60, dk9, dk6, asg, setAll, wipeE, reduceIte, eq_self, ite_true, ite_false, b_sum, b_sum2, es_ee, nes_ee, es_ep, nes_ep, es_et, nes_et, es_pe, nes_pe, es_pp, nes_pp, es_pt, nes_pt, es_te, nes_te, es_tp, nes_tp, es_tt, nes_tt, o_last, la_l, dk0_int, dk0_str, nl_none, nl_int, nl_var, nl_bin, nl_neg, nl_idx, nl_bi, pt_t, pt_f, sl_l, sl_t, mul_li, b_isbl, view_d, Option.map_some, tyD, mtTy, view_o, tyD_dic]
  refine call0 (h15 p hp) rfl ?_
  rintro _ rfl
  simp only [startE, List.map_cons, List.map_nil, List.length_cons, List.length_nil, List.replicate, List.cons_append, List.nil_append, Nat.reduceAdd, Nat.reduceSub, w_ok, w_bind, w_ofO, o_some, o_map, o_bind, i_t, i_f, i_not, w_lit, w_glob, w_var, v_d, v_l, v_k, o_both, w_bin, w_neg, w_tru, w_not, w_and, w_or, w_cmp, w_chain, w_ife, w_call, w_bi, w_get2, w_mt, w_idx, w_slice, w_tuple, w_fr, ws_nil, ws_cons, wo_list, wo_listOf, wo_dict0, wo_dict1, wo_comp, wi_seq, wi_range1, wi_range2, wi_enum, wi_zip, wi_rev, wi_keys, w_lookf, w_lookt, w_frd, w_fro, f_l, f_k, w_fa0, w_fa1, o_view, o_viewd, o_views0, o_views1, uc_int, uc_bool, uc_str, uc_none, uc_list, uc_tuple, k_bk, k_ct, k_rt, w_nil, w_cons, w_set, w_own, w_unpack, w_par, w_put, w_append, w_insert, w_pop, w_popTo, w_onl, l_l, w_putE, p_l, p_k, w_expr, w_ret, w_retN, w_ite, w_wh, w_for, w_brk, w_cont, w_pass, a_ii, a_ss, a_ll, a_tt, s_ii, m_ii, d_ii, r_ii, t_none, t_bool, t_int, t_list, t_tuple, n_int, lt_ii, le_ii, gt_ii, ge_ii, eq_ii, ne_ii, eq_bb, ne_bb, is_bb, isn_bb, i_li, i_ti, sq_l, sq_t, sq_s, ll_l, as_l, as_t, ip_i, b_lenl, b_lent, b_lens, b_abs, b_inti, b_intb, b_tl, b_isb, b_isl, b_ist, b_isi, b_isbi, l_nx, l_ct, l_bk, l_rt, slot_l, slot_k, slot_d, Option.bind_some, Option.bind_none, List.getElem?_cons_zero, List.getElem?_cons_succ, List.set_cons_zero, List.set_cons_succ, at0, at1, at2, isLst, isOwn, true_and, and_true, Bool.not_true, Bool.not_false, decide_true, decide_false, o_ite, o_iteP, p64, p50, p40, p11, p11b, p12, p6, dk2, dk3, dk4, dk5, dk7, dk8, dk10, dk16, dk32, dk64, dk128, dk1024, dk2048, dk42, dk60, dk9, dk6, asg, setAll, wipeE, reduceIte, eq_self, ite_true, ite_false, b_sum, b_sum2, es_ee, nes_ee, es_ep, nes_ep, es_et, nes_et, es_pe, nes_pe, es_pp, nes_pp, es_pt, nes_pt, es_te, nes_te, es_tp, nes_tp, es_tt, nes_tt, o_last, la_l, dk0_int, dk0_str, nl_none, nl_int, nl_var, nl_bin, nl_neg, nl_idx, nl_bi, pt_t, pt_f, sl_l, sl_t, mul_li, b_isbl, view_d, Option.map_some, tyD, mtTy, view_o, tyD_dic]
  rw [k_nx]
  simp only [startE, List.map_cons, List.map_nil, List.length_cons, List.length_nil, List.replicate, List.cons_append, List.nil_append, Nat.reduceAdd, Nat.reduceSub, w_ok, w_bind, w_ofO, o_some, o_map, o_bind, i_t, i_f, i_not, w_lit, w_glob, w_var, v_d, v_l, v_k, o_both, w_bin, w_neg, w_tru, w_not, w_and, w_or, w_cmp, w_chain, w_ife, w_call, w_bi, w_get2, w_mt, w_idx, w_slice, w_tuple, w_fr, ws_nil, ws_cons, wo_list, wo_listOf, wo_dict0, wo_dict1, wo_comp, wi_seq, wi_range1, wi_range2, wi_enum, wi_zip, wi_rev, wi_keys, w_lookf, w_lookt, w_frd, w_fro, f_l, f_k, w_fa0, w_fa1, o_view, o_viewd, o_views0, o_views1, uc_int, uc_bool, uc_str, uc_none, uc_list, uc_tuple, k_bk, k_ct, k_rt, w_nil, w_cons, w_set, w_own, w_unpack, w_par, w_put, w_append, w_insert, w_pop, w_popTo, w_onl, l_l, w_putE, p_l, p_k, w_expr, w_ret, w_retN, w_ite, w_wh, w_for, w_brk, w_cont, w_pass, a_ii, a_ss, a_ll, a_tt, s_ii, m_ii, d_ii, r_ii, t_none, t_bool, t_int, t_list, t_tuple, n_int, lt_ii, le_ii, gt_ii, ge_ii, eq_ii, ne_ii, eq_bb, ne_bb, is_bb, isn_bb, i_li, i_ti, sq_l, sq_t, sq_s, ll_l, as_l, as_t, ip_i, b_lenl, b_lent, b_lens, b_abs, b_inti, b_intb, b_tl, b_isb, b_isl, b_ist, b_isi, b_isbi, l_nx, l_ct, l_bk, l_rt, slot_l, slot_k, slot_d, Option.bind_some, Option.bind_none, List.getElem?_cons_zero, List.getElem?_cons_succ, List.set_cons_zero, List.set_cons_succ, at0, at1, at2, isLst, isOwn, true_and, and_true, Bool.not_true, Bool.not_false, decide_true, decide_false, o_ite, o_iteP, p64, p50, p40, p11, p11b, p12, p6, dk2, dk3, dk4, dk5, dk7, dk8, dk10, dk16, dk32, dk64, dk128, dk1024, dk2048, dk42, dk60, dk9, dk6, asg, setAll, wipeE, reduceIte, eq_self, ite_true, ite_false, b_sum, b_sum2, es_ee, nes_ee, es_ep, nes_ep, es_et, nes_et, es_pe, nes_pe, es_pp, nes_pp, es_pt, nes_pt, es_te, nes_te, es_tp, nes_tp, es_tt, nes_tt, o_last, la_l, dk0_int, dk0_str, nl_none, nl_int, nl_var, nl_bin, nl_neg, nl_idx, nl_bi, pt_t, pt_f, sl_l, sl_t, mul_li, b_isbl, view_d, Option.map_some, tyD, mtTy, view_o, tyD_dic]
  refine call0 (h15 q hq) rfl ?_
  rintro _ rfl
  simp only [startE, List.map_cons, List.map_nil, List.length_cons, List.length_nil, List.replicate, List.cons_append, List.nil_append, Nat.reduceAdd, Nat.reduceSub, w_ok, w_bind, w_ofO, o_some, o_map, o_bind, i_t, i_f, i_not, w_lit, w_glob, w_var, v_d, v_l, v_k, o_both, w_bin, w_neg, w_tru, w_not, w_and, w_or, w_cmp, w_chain, w_ife, w_call, w_bi, w_get2, w_mt, w_idx, w_slice, w_tuple, w_fr, ws_nil, ws_cons, wo_list, wo_listOf, wo_dict0, wo_dict1, wo_comp, wi_seq, wi_range1, wi_range2, wi_enum, wi_zip, wi_rev, wi_keys, w_lookf, w_lookt, w_frd, w_fro, f_l, f_k, w_fa0, w_fa1, o_view, o_viewd, o_views0, o_views1, uc_int, uc_bool, uc_str, uc_none, uc_list, uc_tuple, k_bk, k_ct, k_rt, w_nil, w_cons, w_set, w_own, w_unpack, w_par, w_put, w_append, w_insert, w_pop, w_popTo, w_onl, l_l, w_putE, p_l, p_k, w_expr, w_ret, w_retN, w_ite, w_wh, w_for, w_brk, w_cont, w_pass, a_ii, a_ss, a_ll, a_tt, s_ii, m_ii, d_ii, r_ii, t_none, t_bool, t_int, t_list, t_tuple, n_int, lt_ii, le_ii, gt_ii, ge_ii, eq_ii, ne_ii, eq_bb, ne_bb, is_bb, isn_bb, i_li, i_ti, sq_l, sq_t, sq_s, ll_l, as_l, as_t, ip_i, b_lenl, b_lent, b_lens, b_abs, b_inti, b_intb, b_tl, b_isb, b_isl, b_ist, b_isi, b_isbi, l_nx, l_ct, l_bk, l_rt, slot_l, slot_k, slot_d, Option.bind_some, Option.bind_none, List.getElem?_cons_zero, List.getElem?_cons_succ, List.set_cons_zero, List.set_cons_succ, at0, at1, at2, isLst, isOwn, true_and, and_true, Bool.not_true, Bool.not_false, decide_true, decide_false, o_ite, o_iteP, p64, p50, p40, p11, p11b, p12, p6, dk2, dk3, dk4, dk5, dk7, dk8, dk10, dk16, dk32, dk64, dk128, dk1024, dk2048, dk42, dk60, dk9, dk6, asg, setAll, wipeE, reduceIte, eq_self, ite_true, ite_false, b_sum, b_sum2, es_ee, nes_ee, es_ep, nes_ep, es_et, nes_et, es_pe, nes_pe, es_pp, nes_pp, es_pt, nes_pt, es_te, nes_te, es_tp, nes_tp, es_tt, nes_tt, o_last, la_l, dk0_int, dk0_str, nl_none, nl_int, nl_var, nl_bin, nl_neg, nl_idx, nl_bi, pt_t, pt_f, sl_l, sl_t, mul_li, b_isbl, view_d, Option.map_some, tyD, mtTy, view_o, tyD_dic]
  rw [k_nx]
  simp only [startE, List.map_cons, List.map_nil, List.length_cons, List.length_nil, List.replicate, List.cons_append, List.nil_append, Nat.reduceAdd, Nat.reduceSub, w_ok, w_bind, w_ofO, o_some, o_map, o_bind, i_t, i_f, i_not, w_lit, w_glob, w_var, v_d, v_l, v_k, o_both, w_bin, w_neg, w_tru, w_not, w_and, w_or, w_cmp, w_chain, w_ife, w_call, w_bi, w_get2, w_mt, w_idx, w_slice, w_tuple, w_fr, ws_nil, ws_cons, wo_list, wo_listOf, wo_dict0, wo_dict1, wo_comp, wi_seq, wi_range1, wi_range2, wi_enum, wi_zip, wi_rev, wi_keys, w_lookf, w_lookt, w_frd, w_fro, f_l, f_k, w_fa0, w_fa1, o_view, o_viewd, o_views0, o_views1, uc_int, uc_bool, uc_str, uc_none, uc_list, uc_tuple, k_bk, k_ct, k_rt, w_nil, w_cons, w_set, w_own, w_unpack, w_par, w_put, w_append, w_insert, w_pop, w_popTo, w_onl, l_l, w_putE, p_l, p_k, w_expr, w_ret, w_retN, w_ite, w_wh, w_for, w_brk, w_cont, w_pass, a_ii, a_ss, a_ll, a_tt, s_ii, m_ii, d_ii, r_ii, t_none, t_bool, t_int, t_list, t_tuple, n_int, lt_ii, le_ii, gt_ii, ge_ii, eq_ii, ne_ii, eq_bb, ne_bb, is_bb, isn_bb, i_li, i_ti, sq_l, sq_t, sq_s, ll_l, as_l, as_t, ip_i, b_lenl, b_lent, b_lens, b_abs, b_inti, b_intb, b_tl, b_isb, b_isl, b_ist, b_isi, b_isbi, l_nx, l_ct, l_bk, l_rt, slot_l, slot_k, slot_d, Option.bind_some, Option.bind_none, List.getElem?_cons_zero, List.getElem?_cons_succ, List.set_cons_zero, List.set_cons_succ, at0, at1, at2, isLst, isOwn, true_and, and_true, Bool.not_true, Bool.not_false, decide_true, decide_false, o_ite, o_iteP, p64, p50, p40, p11, p11b, p12, p6, dk2, dk3, dk4, dk5, dk7, dk8, dk10, dk16, dk32, dk64, dk128, dk1024, dk2048, dk42, dk60, dk9, dk6, asg, setAll, wipeE, reduceIte, eq_self, ite_true, ite_false, b_sum, b_sum2, es_ee, nes_ee, es_ep, nes_ep, es_et, nes_et, es_pe, nes_pe, es_pp, nes_pp, es_pt, nes_pt, es_te, nes_te, es_tp, nes_tp, es_tt, nes_tt, o_last, la_l, dk0_int, dk0_str, nl_none, nl_int, nl_var, nl_bin, nl_neg, nl_idx, nl_bi, pt_t, pt_f, sl_l, sl_t, mul_li, b_isbl, view_d, Option.map_some, tyD, mtTy, view_o, tyD_dic, b_sortK]
  rw [ne_ints]
  simp only [startE, List.map_cons, List.map_nil, List.length_cons, List.length_nil, List.replicate, List.cons_append, List.nil_append, Nat.reduceAdd, Nat.reduceSub, w_ok, w_bind, w_ofO, o_some, o_map, o_bind, i_t, i_f, i_not, w_lit, w_glob, w_var, v_d, v_l, v_k, o_both, w_bin, w_neg, w_tru, w_not, w_and, w_or, w_cmp, w_chain, w_ife, w_call, w_bi, w_get2, w_mt, w_idx, w_slice, w_tuple, w_fr, ws_nil, ws_cons, wo_list, wo_listOf, wo_dict0, wo_dict1, wo_comp, wi_seq, wi_range1, wi_range2, wi_enum, wi_zip, wi_rev, wi_keys, w_lookf, w_lookt, w_frd, w_fro, f_l, f_k, w_fa0, w_fa1, o_view, o_viewd, o_views0, o_views1, uc_int, uc_bool, uc_str, uc_none, uc_list, uc_tuple, k_bk, k_ct, k_rt, w_nil, w_cons, w_set, w_own, w_unpack, w_par, w_put, w_append, w_insert, w_pop, w_popTo, w_onl, l_l, w_putE, p_l, p_k, w_expr, w_ret, w_retN, w_ite, w_wh, w_for, w_brk, w_cont, w_pass, a_ii, a_ss, a_ll, a_tt, s_ii, m_ii, d_ii, r_ii, t_none, t_bool, t_int, t_list, t_tuple, n_int, lt_ii, le_ii, gt_ii, ge_ii, eq_ii, ne_ii, eq_bb, ne_bb, is_bb, isn_bb, i_li, i_ti, sq_l, sq_t, sq_s, ll_l, as_l, as_t, ip_i, b_lenl, b_lent, b_lens, b_abs, b_inti, b_intb, b_tl, b_isb, b_isl, b_ist, b_isi, b_isbi, l_nx, l_ct, l_bk, l_rt, slot_l, slot_k, slot_d, Option.bind_some, Option.bind_none, List.getElem?_cons_zero, List.getElem?_cons_succ, List.set_cons_zero, List.set_cons_succ, at0, at1, at2, isLst, isOwn, true_and, and_true, Bool.not_true, Bool.not_false, decide_true, decide_false, o_ite, o_iteP, p64, p50, p40, p11, p11b, p12, p6, dk2, dk3, dk4, dk5, dk7, dk8, dk10, dk16, dk32, dk64, dk128, dk1024, dk2048, dk42, dk60, dk9, dk6, asg, setAll, wipeE, reduceIte, eq_self, ite_true, ite_false, b_sum, b_sum2, es_ee, nes_ee, es_ep, nes_ep, es_et, nes_et, es_pe, nes_pe, es_pp, nes_pp, es_pt, nes_pt, es_te, nes_te, es_tp, nes_tp, es_tt, nes_tt, o_last, la_l, dk0_int, dk0_str, nl_none, nl_int, nl_var, nl_bin, nl_neg, nl_idx, nl_bi, pt_t, pt_f, sl_l, sl_t, mul_li, b_isbl, view_d, Option.map_some, tyD, mtTy, view_o, tyD_dic]
  refine WI_d (fun h => ?_) fun h => ?_
  rotate_left
  · have : asb nums p q = false := by
      unfold asb
      rw [Bool.and_eq_false_iff]
      exact .inl (decide_eq_false h)
    rw [this]
  have h : sortI (ks nums p) = sortI (ks nums q) := h
  have inq : ∀ k ∈ ks nums p, k ∈ ks nums q := fun k hk => by rw [← sort_mem, ← h, sort_mem]; exact hk
  try rw [k_nx]
  simp only [startE, List.map_cons, List.map_nil, List.length_cons, List.length_nil, List.replicate, List.cons_append, List.nil_append, Nat.reduceAdd, Nat.reduceSub, w_ok, w_bind, w_ofO, o_some, o_map, o_bind, i_t, i_f, i_not, w_lit, w_glob, w_var, v_d, v_l, v_k, o_both, w_bin, w_neg, w_tru, w_not, w_and, w_or, w_cmp, w_chain, w_ife, w_call, w_bi, w_get2, w_mt, w_idx, w_slice, w_tuple, w_fr, ws_nil, ws_cons, wo_list, wo_listOf, wo_dict0, wo_dict1, wo_comp, wi_seq, wi_range1, wi_range2, wi_enum, wi_zip, wi_rev, wi_keys, w_lookf, w_lookt, w_frd, w_fro, f_l, f_k, w_fa0, w_fa1, o_view, o_viewd, o_views0, o_views1, uc_int, uc_bool, uc_str, uc_none, uc_list, uc_tuple, k_bk, k_ct, k_rt, w_nil, w_cons, w_set, w_own, w_unpack, w_par, w_put, w_append, w_insert, w_pop, w_popTo, w_onl, l_l, w_putE, p_l, p_k, w_expr, w_ret, w_retN, w_ite, w_wh, w_for, w_brk, w_cont, w_pass, a_ii, a_ss, a_ll, a_tt, s_ii, m_ii, d_ii, r_ii, t_none, t_bool, t_int, t_list, t_tuple, n_int, lt_ii, le_ii, gt_ii, ge_ii, eq_ii, ne_ii, eq_bb, ne_bb, is_bb, isn_bb, i_li, i_ti, sq_l, sq_t, sq_s, ll_l, as_l, as_t, ip_i, b_lenl, b_lent, b_lens, b_abs, b_inti, b_intb, b_tl, b_isb, b_isl, b_ist, b_isi, b_isbi, l_nx, l_ct, l_bk, l_rt, slot_l, slot_k, slot_d, Option.bind_some, Option.bind_none, List.getElem?_cons_zero, List.getElem?_cons_succ, List.set_cons_zero, List.set_cons_succ, at0, at1, at2, isLst, isOwn, true_and, and_true, Bool.not_true, Bool.not_false, decide_true, decide_false, o_ite, o_iteP, p64, p50, p40, p11, p11b, p12, p6, dk2, dk3, dk4, dk5, dk7, dk8, dk10, dk16, dk32, dk64, dk128, dk1024, dk2048, dk42, dk60, dk9, dk6, asg, setAll, wipeE, reduceIte, eq_self, ite_true, ite_false, b_sum, b_sum2, es_ee, nes_ee, es_ep, nes_ep, es_et, nes_et, es_pe, nes_pe, es_pp, nes_pp, es_pt, nes_pt, es_te, nes_te, es_tp, nes_tp, es_tt, nes_tt, o_last, la_l, dk0_int, dk0_str, nl_none, nl_int, nl_var, nl_bin, nl_neg, nl_idx, nl_bi, pt_t, pt_f, sl_l, sl_t, mul_li, b_isbl, view_d, Option.map_some, tyD, mtTy, view_o, tyD_dic]
  rw [keys_kvN]
  refine w_cw1 (ks nums p) PyData.int (fun k z => z = .int (lk (wl nums p) k)) rfl rfl (by omega) (fun k hk => ?_) fun zs hz => ?_
  · simp only [startE, List.map_cons, List.map_nil, List.length_cons, List.length_nil, List.replicate, List.cons_append, List.nil_append, Nat.reduceAdd, Nat.reduceSub, w_ok, w_bind, w_ofO, o_some, o_map, o_bind, i_t, i_f, i_not, w_lit, w_glob, w_var, v_d, v_l, v_k, o_both, w_bin, w_neg, w_tru, w_not, w_and, w_or, w_cmp, w_chain, w_ife, w_call, w_bi, w_get2, w_mt, w_idx, w_slice, w_tuple, w_fr, ws_nil, ws_cons, wo_list, wo_listOf, wo_dict0, wo_dict1, wo_comp, wi_seq, wi_range1, wi_range2, wi_enum, wi_zip, wi_rev, wi_keys, w_lookf, w_lookt, w_frd, w_fro, f_l, f_k, w_fa0, w_fa1, o_view, o_viewd, o_views0, o_views1, uc_int, uc_bool, uc_str, uc_none, uc_list, uc_tuple, k_bk, k_ct, k_rt, w_nil, w_cons, w_set, w_own, w_unpack, w_par, w_put, w_append, w_insert, w_pop, w_popTo, w_onl, l_l, w_putE, p_l, p_k, w_expr, w_ret, w_retN, w_ite, w_wh, w_for, w_brk, w_cont, w_pass, a_ii, a_ss, a_ll, a_tt, s_ii, m_ii, d_ii, r_ii, t_none, t_bool, t_int, t_list, t_tuple, n_int, lt_ii, le_ii, gt_ii, ge_ii, eq_ii, ne_ii, eq_bb, ne_bb, is_bb, isn_bb, i_li, i_ti, sq_l, sq_t, sq_s, ll_l, as_l, as_t, ip_i, b_lenl, b_lent, b_lens, b_abs, b_inti, b_intb, b_tl, b_isb, b_isl, b_ist, b_isi, b_isbi, l_nx, l_ct, l_bk, l_rt, slot_l, slot_k, slot_d, Option.bind_some, Option.bind_none, List.getElem?_cons_zero, List.getElem?_cons_succ, List.set_cons_zero, List.set_cons_succ, at0, at1, at2, isLst, isOwn, true_and, and_true, Bool.not_true, Bool.not_false, decide_true, decide_false, o_ite, o_iteP, p64, p50, p40, p11, p11b, p12, p6, dk2, dk3, dk4, dk5, dk7, dk8, dk10, dk16, dk32, dk64, dk128, dk1024, dk2048, dk42, dk60, dk9, dk6, asg, setAll, wipeE, reduceIte, eq_self, ite_true, ite_false, b_sum, b_sum2, es_ee, nes_ee, es_ep, nes_ep, es_et, nes_et, es_pe, nes_pe, es_pp, nes_pp, es_pt, nes_pt, es_te, nes_te, es_tp, nes_tp, es_tt, nes_tt, o_last, la_l, dk0_int, dk0_str, nl_none, nl_int, nl_var, nl_bin, nl_neg, nl_idx, nl_bi, pt_t, pt_f, sl_l, sl_t, mul_li, b_isbl, view_d, Option.map_some, tyD, mtTy, view_o, tyD_dic]
    rw [ix_kvN _ _ hk]
  have e1 : zs = ((ks nums p).map (lk (wl nums p))).map .int := by rw [hz.map_eq]; simp
  rw [e1]
  simp only [startE, List.map_cons, List.map_nil, List.length_cons, List.length_nil, List.replicate, List.cons_append, List.nil_append, Nat.reduceAdd, Nat.reduceSub, w_ok, w_bind, w_ofO, o_some, o_map, o_bind, i_t, i_f, i_not, w_lit, w_glob, w_var, v_d, v_l, v_k, o_both, w_bin, w_neg, w_tru, w_not, w_and, w_or, w_cmp, w_chain, w_ife, w_call, w_bi, w_get2, w_mt, w_idx, w_slice, w_tuple, w_fr, ws_nil, ws_cons, wo_list, wo_listOf, wo_dict0, wo_dict1, wo_comp, wi_seq, wi_range1, wi_range2, wi_enum, wi_zip, wi_rev, wi_keys, w_lookf, w_lookt, w_frd, w_fro, f_l, f_k, w_fa0, w_fa1, o_view, o_viewd, o_views0, o_views1, uc_int, uc_bool, uc_str, uc_none, uc_list, uc_tuple, k_bk, k_ct, k_rt, w_nil, w_cons, w_set, w_own, w_unpack, w_par, w_put, w_append, w_insert, w_pop, w_popTo, w_onl, l_l, w_putE, p_l, p_k, w_expr, w_ret, w_retN, w_ite, w_wh, w_for, w_brk, w_cont, w_pass, a_ii, a_ss, a_ll, a_tt, s_ii, m_ii, d_ii, r_ii, t_none, t_bool, t_int, t_list, t_tuple, n_int, lt_ii, le_ii, gt_ii, ge_ii, eq_ii, ne_ii, eq_bb, ne_bb, is_bb, isn_bb, i_li, i_ti, sq_l, sq_t, sq_s, ll_l, as_l, as_t, ip_i, b_lenl, b_lent, b_lens, b_abs, b_inti, b_intb, b_tl, b_isb, b_isl, b_ist, b_isi, b_isbi, l_nx, l_ct, l_bk, l_rt, slot_l, slot_k, slot_d, Option.bind_some, Option.bind_none, List.getElem?_cons_zero, List.getElem?_cons_succ, List.set_cons_zero, List.set_cons_succ, at0, at1, at2, isLst, isOwn, true_and, and_true, Bool.not_true, Bool.not_false, decide_true, decide_false, o_ite, o_iteP, p64, p50, p40, p11, p11b, p12, p6, dk2, dk3, dk4, dk5, dk7, dk8, dk10, dk16, dk32, dk64, dk128, dk1024, dk2048, dk42, dk60, dk9, dk6, asg, setAll, wipeE, reduceIte, eq_self, ite_true, ite_false, b_sum, b_sum2, es_ee, nes_ee, es_ep, nes_ep, es_et, nes_et, es_pe, nes_pe, es_pp, nes_pp, es_pt, nes_pt, es_te, nes_te, es_tp, nes_tp, es_tt, nes_tt, o_last, la_l, dk0_int, dk0_str, nl_none, nl_int, nl_var, nl_bin, nl_neg, nl_idx, nl_bi, pt_t, pt_f, sl_l, sl_t, mul_li, b_isbl, view_d, Option.map_some, tyD, mtTy, view_o, tyD_dic]
  rw [k_nx]
  simp only [startE, List.map_cons, List.map_nil, List.length_cons, List.length_nil, List.replicate, List.cons_append, List.nil_append, Nat.reduceAdd, Nat.reduceSub, w_ok, w_bind, w_ofO, o_some, o_map, o_bind, i_t, i_f, i_not, w_lit, w_glob, w_var, v_d, v_l, v_k, o_both, w_bin, w_neg, w_tru, w_not, w_and, w_or, w_cmp, w_chain, w_ife, w_call, w_bi, w_get2, w_mt, w_idx, w_slice, w_tuple, w_fr, ws_nil, ws_cons, wo_list, wo_listOf, wo_dict0, wo_dict1, wo_comp, wi_seq, wi_range1, wi_range2, wi_enum, wi_zip, wi_rev, wi_keys, w_lookf, w_lookt, w_frd, w_fro, f_l, f_k, w_fa0, w_fa1, o_view, o_viewd, o_views0, o_views1, uc_int, uc_bool, uc_str, uc_none, uc_list, uc_tuple, k_bk, k_ct, k_rt, w_nil, w_cons, w_set, w_own, w_unpack, w_par, w_put, w_append, w_insert, w_pop, w_popTo, w_onl, l_l, w_putE, p_l, p_k, w_expr, w_ret, w_retN, w_ite, w_wh, w_for, w_brk, w_cont, w_pass, a_ii, a_ss, a_ll, a_tt, s_ii, m_ii, d_ii, r_ii, t_none, t_bool, t_int, t_list, t_tuple, n_int, lt_ii, le_ii, gt_ii, ge_ii, eq_ii, ne_ii, eq_bb, ne_bb, is_bb, isn_bb, i_li, i_ti, sq_l, sq_t, sq_s, ll_l, as_l, as_t, ip_i, b_lenl, b_lent, b_lens, b_abs, b_inti, b_intb, b_tl, b_isb, b_isl, b_ist, b_isi, b_isbi, l_nx, l_ct, l_bk, l_rt, slot_l, slot_k, slot_d, Option.bind_some, Option.bind_none, List.getElem?_cons_zero, List.getElem?_cons_succ, List.set_cons_zero, List.set_cons_succ, at0, at1, at2, isLst, isOwn, true_and, and_true, Bool.not_true, Bool.not_false, decide_true, decide_false, o_ite, o_iteP, p64, p50, p40, p11, p11b, p12, p6, dk2, dk3, dk4, dk5, dk7, dk8, dk10, dk16, dk32, dk64, dk128, dk1024, dk2048, dk42, dk60, dk9, dk6, asg, setAll, wipeE, reduceIte, eq_self, ite_true, ite_false, b_sum, b_sum2, es_ee, nes_ee, es_ep, nes_ep, es_et, nes_et, es_pe, nes_pe, es_pp, nes_pp, es_pt, nes_pt, es_te, nes_te, es_tp, nes_tp, es_tt, nes_tt, o_last, la_l, dk0_int, dk0_str, nl_none, nl_int, nl_var, nl_bin, nl_neg, nl_idx, nl_bi, pt_t, pt_f, sl_l, sl_t, mul_li, b_isbl, view_d, Option.map_some, tyD, mtTy, view_o, tyD_dic]
  rw [keys_kvN]
  refine w_cw1 (ks nums q) PyData.int (fun k z => z = .int (lk (wl nums q) k)) rfl rfl (by omega) (fun k hk => ?_) fun zs hz => ?_
  · simp only [startE, List.map_cons, List.map_nil, List.length_cons, List.length_nil, List.replicate, List.cons_append, List.nil_append, Nat.reduceAdd, Nat.reduceSub, w_ok, w_bind, w_ofO, o_some, o_map, o_bind, i_t, i_f, i_not, w_lit, w_glob, w_var, v_d, v_l, v_k, o_both, w_bin, w_neg, w_tru, w_not, w_and, w_or, w_cmp, w_chain, w_ife, w_call, w_bi, w_get2, w_mt, w_idx, w_slice, w_tuple, w_fr, ws_nil, ws_cons, wo_list, wo_listOf, wo_dict0, wo_dict1, wo_comp, wi_seq, wi_range1, wi_range2, wi_enum, wi_zip, wi_rev, wi_keys, w_lookf, w_lookt, w_frd, w_fro, f_l, f_k, w_fa0, w_fa1, o_view, o_viewd, o_views0, o_views1, uc_int, uc_bool, uc_str, uc_none, uc_list, uc_tuple, k_bk, k_ct, k_rt, w_nil, w_cons, w_set, w_own, w_unpack, w_par, w_put, w_append, w_insert, w_pop, w_popTo, w_onl, l_l, w_putE, p_l, p_k, w_expr, w_ret, w_retN, w_ite, w_wh, w_for, w_brk, w_cont, w_pass, a_ii, a_ss, a_ll, a_tt, s_ii, m_ii, d_ii, r_ii, t_none, t_bool, t_int, t_list, t_tuple, n_int, lt_ii, le_ii, gt_ii, ge_ii, eq_ii, ne_ii, eq_bb, ne_bb, is_bb, isn_bb, i_li, i_ti, sq_l, sq_t, sq_s, ll_l, as_l, as_t, ip_i, b_lenl, b_lent, b_lens, b_abs, b_inti, b_intb, b_tl, b_isb, b_isl, b_ist, b_isi, b_isbi, l_nx, l_ct, l_bk, l_rt, slot_l, slot_k, slot_d, Option.bind_some, Option.bind_none, List.getElem?_cons_zero, List.getElem?_cons_succ, List.set_cons_zero, List.set_cons_succ, at0, at1, at2, isLst, isOwn, true_and, and_true, Bool.not_true, Bool.not_false, decide_true, decide_false, o_ite, o_iteP, p64, p50, p40, p11, p11b, p12, p6, dk2, dk3, dk4, dk5, dk7, dk8, dk10, dk16, dk32, dk64, dk128, dk1024, dk2048, dk42, dk60, dk9, dk6, asg, setAll, wipeE, reduceIte, eq_self, ite_true, ite_false, b_sum, b_sum2, es_ee, nes_ee, es_ep, nes_ep, es_et, nes_et, es_pe, nes_pe, es_pp, nes_pp, es_pt, nes_pt, es_te, nes_te, es_tp, nes_tp, es_tt, nes_tt, o_last, la_l, dk0_int, dk0_str, nl_none, nl_int, nl_var, nl_bin, nl_neg, nl_idx, nl_bi, pt_t, pt_f, sl_l, sl_t, mul_li, b_isbl, view_d, Option.map_some, tyD, mtTy, view_o, tyD_dic]
    rw [ix_kvN _ _ hk]
  have e2 : zs = ((ks nums q).map (lk (wl nums q))).map .int := by rw [hz.map_eq]; simp
  rw [e2]
  simp only [startE, List.map_cons, List.map_nil, List.length_cons, List.length_nil, List.replicate, List.cons_append, List.nil_append, Nat.reduceAdd, Nat.reduceSub, w_ok, w_bind, w_ofO, o_some, o_map, o_bind, i_t, i_f, i_not, w_lit, w_glob, w_var, v_d, v_l, v_k, o_both, w_bin, w_neg, w_tru, w_not, w_and, w_or, w_cmp, w_chain, w_ife, w_call, w_bi, w_get2, w_mt, w_idx, w_slice, w_tuple, w_fr, ws_nil, ws_cons, wo_list, wo_listOf, wo_dict0, wo_dict1, wo_comp, wi_seq, wi_range1, wi_range2, wi_enum, wi_zip, wi_rev, wi_keys, w_lookf, w_lookt, w_frd, w_fro, f_l, f_k, w_fa0, w_fa1, o_view, o_viewd, o_views0, o_views1, uc_int, uc_bool, uc_str, uc_none, uc_list, uc_tuple, k_bk, k_ct, k_rt, w_nil, w_cons, w_set, w_own, w_unpack, w_par, w_put, w_append, w_insert, w_pop, w_popTo, w_onl, l_l, w_putE, p_l, p_k, w_expr, w_ret, w_retN, w_ite, w_wh, w_for, w_brk, w_cont, w_pass, a_ii, a_ss, a_ll, a_tt, s_ii, m_ii, d_ii, r_ii, t_none, t_bool, t_int, t_list, t_tuple, n_int, lt_ii, le_ii, gt_ii, ge_ii, eq_ii, ne_ii, eq_bb, ne_bb, is_bb, isn_bb, i_li, i_ti, sq_l, sq_t, sq_s, ll_l, as_l, as_t, ip_i, b_lenl, b_lent, b_lens, b_abs, b_inti, b_intb, b_tl, b_isb, b_isl, b_ist, b_isi, b_isbi, l_nx, l_ct, l_bk, l_rt, slot_l, slot_k, slot_d, Option.bind_some, Option.bind_none, List.getElem?_cons_zero, List.getElem?_cons_succ, List.set_cons_zero, List.set_cons_succ, at0, at1, at2, isLst, isOwn, true_and, and_true, Bool.not_true, Bool.not_false, decide_true, decide_false, o_ite, o_iteP, p64, p50, p40, p11, p11b, p12, p6, dk2, dk3, dk4, dk5, dk7, dk8, dk10, dk16, dk32, dk64, dk128, dk1024, dk2048, dk42, dk60, dk9, dk6, asg, setAll, wipeE, reduceIte, eq_self, ite_true, ite_false, b_sum, b_sum2, es_ee, nes_ee, es_ep, nes_ep, es_et, nes_et, es_pe, nes_pe, es_pp, nes_pp, es_pt, nes_pt, es_te, nes_te, es_tp, nes_tp, es_tt, nes_tt, o_last, la_l, dk0_int, dk0_str, nl_none, nl_int, nl_var, nl_bin, nl_neg, nl_idx, nl_bi, pt_t, pt_f, sl_l, sl_t, mul_li, b_isbl, view_d, Option.map_some, tyD, mtTy, view_o, tyD_dic]
  rw [k_nx]
  simp only [startE, List.map_cons, List.map_nil, List.length_cons, List.length_nil, List.replicate, List.cons_append, List.nil_append, Nat.reduceAdd, Nat.reduceSub, w_ok, w_bind, w_ofO, o_some, o_map, o_bind, i_t, i_f, i_not, w_lit, w_glob, w_var, v_d, v_l, v_k, o_both, w_bin, w_neg, w_tru, w_not, w_and, w_or, w_cmp, w_chain, w_ife, w_call, w_bi, w_get2, w_mt, w_idx, w_slice, w_tuple, w_fr, ws_nil, ws_cons, wo_list, wo_listOf, wo_dict0, wo_dict1, wo_comp, wi_seq, wi_range1, wi_range2, wi_enum, wi_zip, wi_rev, wi_keys, w_lookf, w_lookt, w_frd, w_fro, f_l, f_k, w_fa0, w_fa1, o_view, o_viewd, o_views0, o_views1, uc_int, uc_bool, uc_str, uc_none, uc_list, uc_tuple, k_bk, k_ct, k_rt, w_nil, w_cons, w_set, w_own, w_unpack, w_par, w_put, w_append, w_insert, w_pop, w_popTo, w_onl, l_l, w_putE, p_l, p_k, w_expr, w_ret, w_retN, w_ite, w_wh, w_for, w_brk, w_cont, w_pass, a_ii, a_ss, a_ll, a_tt, s_ii, m_ii, d_ii, r_ii, t_none, t_bool, t_int, t_list, t_tuple, n_int, lt_ii, le_ii, gt_ii, ge_ii, eq_ii, ne_ii, eq_bb, ne_bb, is_bb, isn_bb, i_li, i_ti, sq_l, sq_t, sq_s, ll_l, as_l, as_t, ip_i, b_lenl, b_lent, b_lens, b_abs, b_inti, b_intb, b_tl, b_isb, b_isl, b_ist, b_isi, b_isbi, l_nx, l_ct, l_bk, l_rt, slot_l, slot_k, slot_d, Option.bind_some, Option.bind_none, List.getElem?_cons_zero, List.getElem?_cons_succ, List.set_cons_zero, List.set_cons_succ, at0, at1, at2, isLst, isOwn, true_and, and_true, Bool.not_true, Bool.not_false, decide_true, decide_false, o_ite, o_iteP, p64, p50, p40, p11, p11b, p12, p6, dk2, dk3, dk4, dk5, dk7, dk8, dk10, dk16, dk32, dk64, dk128, dk1024, dk2048, dk42, dk60, dk9, dk6, asg, setAll, wipeE, reduceIte, eq_self, ite_true, ite_false, b_sum, b_sum2, es_ee, nes_ee, es_ep, nes_ep, es_et, nes_et, es_pe, nes_pe, es_pp, nes_pp, es_pt, nes_pt, es_te, nes_te, es_tp, nes_tp, es_tt, nes_tt, o_last, la_l, dk0_int, dk0_str, nl_none, nl_int, nl_var, nl_bin, nl_neg, nl_idx, nl_bi, pt_t, pt_f, sl_l, sl_t, mul_li, b_isbl, view_d, Option.map_some, tyD, mtTy, view_o, tyD_dic]
  rw [keys_kvN]
  refine w_cw (ks nums p) PyData.int (fun n => !decide (lk (wl nums p) n * tot nums q = lk (wl nums q) n * tot nums p)) (fun n z => z = .int n) rfl rfl (by omega) (fun k hk => ?_) fun zs hz => ?_
  · have x1 := b2 k hk
    have x2 := c2 k (inq k hk)
    simp only [startE, List.map_cons, List.map_nil, List.length_cons, List.length_nil, List.replicate, List.cons_append, List.nil_append, Nat.reduceAdd, Nat.reduceSub, w_ok, w_bind, w_ofO, o_some, o_map, o_bind, i_t, i_f, i_not, w_lit, w_glob, w_var, v_d, v_l, v_k, o_both, w_bin, w_neg, w_tru, w_not, w_and, w_or, w_cmp, w_chain, w_ife, w_call, w_bi, w_get2, w_mt, w_idx, w_slice, w_tuple, w_fr, ws_nil, ws_cons, wo_list, wo_listOf, wo_dict0, wo_dict1, wo_comp, wi_seq, wi_range1, wi_range2, wi_enum, wi_zip, wi_rev, wi_keys, w_lookf, w_lookt, w_frd, w_fro, f_l, f_k, w_fa0, w_fa1, o_view, o_viewd, o_views0, o_views1, uc_int, uc_bool, uc_str, uc_none, uc_list, uc_tuple, k_bk, k_ct, k_rt, w_nil, w_cons, w_set, w_own, w_unpack, w_par, w_put, w_append, w_insert, w_pop, w_popTo, w_onl, l_l, w_putE, p_l, p_k, w_expr, w_ret, w_retN, w_ite, w_wh, w_for, w_brk, w_cont, w_pass, a_ii, a_ss, a_ll, a_tt, s_ii, m_ii, d_ii, r_ii, t_none, t_bool, t_int, t_list, t_tuple, n_int, lt_ii, le_ii, gt_ii, ge_ii, eq_ii, ne_ii, eq_bb, ne_bb, is_bb, isn_bb, i_li, i_ti, sq_l, sq_t, sq_s, ll_l, as_l, as_t, ip_i, b_lenl, b_lent, b_lens, b_abs, b_inti, b_intb, b_tl, b_isb, b_isl, b_ist, b_isi, b_isbi, l_nx, l_ct, l_bk, l_rt, slot_l, slot_k, slot_d, Option.bind_some, Option.bind_none, List.getElem?_cons_zero, List.getElem?_cons_succ, List.set_cons_zero, List.set_cons_succ, at0, at1, at2, isLst, isOwn, true_and, and_true, Bool.not_true, Bool.not_false, decide_true, decide_false, o_ite, o_iteP, p64, p50, p40, p11, p11b, p12, p6, dk2, dk3, dk4, dk5, dk7, dk8, dk10, dk16, dk32, dk64, dk128, dk1024, dk2048, dk42, dk60, dk9, dk6, asg, setAll, wipeE, reduceIte, eq_self, ite_true, ite_false, b_sum, b_sum2, es_ee, nes_ee, es_ep, nes_ep, es_et, nes_et, es_pe, nes_pe, es_pp, nes_pp, es_pt, nes_pt, es_te, nes_te, es_tp, nes_tp, es_tt, nes_tt, o_last, la_l, dk0_int, dk0_str, nl_none, nl_int, nl_var, nl_bin, nl_neg, nl_idx, nl_bi, pt_t, pt_f, sl_l, sl_t, mul_li, b_isbl, view_d, Option.map_some, tyD, mtTy, view_o, tyD_dic]
    rw [ix_kvN _ _ hk]
    simp only [startE, List.map_cons, List.map_nil, List.length_cons, List.length_nil, List.replicate, List.cons_append, List.nil_append, Nat.reduceAdd, Nat.reduceSub, w_ok, w_bind, w_ofO, o_some, o_map, o_bind, i_t, i_f, i_not, w_lit, w_glob, w_var, v_d, v_l, v_k, o_both, w_bin, w_neg, w_tru, w_not, w_and, w_or, w_cmp, w_chain, w_ife, w_call, w_bi, w_get2, w_mt, w_idx, w_slice, w_tuple, w_fr, ws_nil, ws_cons, wo_list, wo_listOf, wo_dict0, wo_dict1, wo_comp, wi_seq, wi_range1, wi_range2, wi_enum, wi_zip, wi_rev, wi_keys, w_lookf, w_lookt, w_frd, w_fro, f_l, f_k, w_fa0, w_fa1, o_view, o_viewd, o_views0, o_views1, uc_int, uc_bool, uc_str, uc_none, uc_list, uc_tuple, k_bk, k_ct, k_rt, w_nil, w_cons, w_set, w_own, w_unpack, w_par, w_put, w_append, w_insert, w_pop, w_popTo, w_onl, l_l, w_putE, p_l, p_k, w_expr, w_ret, w_retN, w_ite, w_wh, w_for, w_brk, w_cont, w_pass, a_ii, a_ss, a_ll, a_tt, s_ii, m_ii, d_ii, r_ii, t_none, t_bool, t_int, t_list, t_tuple, n_int, lt_ii, le_ii, gt_ii, ge_ii, eq_ii, ne_ii, eq_bb, ne_bb, is_bb, isn_bb, i_li, i_ti, sq_l, sq_t, sq_s, ll_l, as_l, as_t, ip_i, b_lenl, b_lent, b_lens, b_abs, b_inti, b_intb, b_tl, b_isb, b_isl, b_ist, b_isi, b_isbi, l_nx, l_ct, l_bk, l_rt, slot_l, slot_k, slot_d, Option.bind_some, Option.bind_none, List.getElem?_cons_zero, List.getElem?_cons_succ, List.set_cons_zero, List.set_cons_succ, at0, at1, at2, isLst, isOwn, true_and, and_true, Bool.not_true, Bool.not_false, decide_true, decide_false, o_ite, o_iteP, p64, p50, p40, p11, p11b, p12, p6, dk2, dk3, dk4, dk5, dk7, dk8, dk10, dk16, dk32, dk64, dk128, dk1024, dk2048, dk42, dk60, dk9, dk6, asg, setAll, wipeE, reduceIte, eq_self, ite_true, ite_false, b_sum, b_sum2, es_ee, nes_ee, es_ep, nes_ep, es_et, nes_et, es_pe, nes_pe, es_pp, nes_pp, es_pt, nes_pt, es_te, nes_te, es_tp, nes_tp, es_tt, nes_tt, o_last, la_l, dk0_int, dk0_str, nl_none, nl_int, nl_var, nl_bin, nl_neg, nl_idx, nl_bi, pt_t, pt_f, sl_l, sl_t, mul_li, b_isbl, view_d, Option.map_some, tyD, mtTy, view_o, tyD_dic]
    refine ⟨mulOk_sm (by omega) (by omega) ?_ ?_, ?_⟩
    · show -2 ^ 64 < tot nums q
      omega
    · show tot nums q < 2 ^ 64
      omega
    rw [ix_kvN _ _ (inq k hk)]
    simp only [startE, List.map_cons, List.map_nil, List.length_cons, List.length_nil, List.replicate, List.cons_append, List.nil_append, Nat.reduceAdd, Nat.reduceSub, w_ok, w_bind, w_ofO, o_some, o_map, o_bind, i_t, i_f, i_not, w_lit, w_glob, w_var, v_d, v_l, v_k, o_both, w_bin, w_neg, w_tru, w_not, w_and, w_or, w_cmp, w_chain, w_ife, w_call, w_bi, w_get2, w_mt, w_idx, w_slice, w_tuple, w_fr, ws_nil, ws_cons, wo_list, wo_listOf, wo_dict0, wo_dict1, wo_comp, wi_seq, wi_range1, wi_range2, wi_enum, wi_zip, wi_rev, wi_keys, w_lookf, w_lookt, w_frd, w_fro, f_l, f_k, w_fa0, w_fa1, o_view, o_viewd, o_views0, o_views1, uc_int, uc_bool, uc_str, uc_none, uc_list, uc_tuple, k_bk, k_ct, k_rt, w_nil, w_cons, w_set, w_own, w_unpack, w_par, w_put, w_append, w_insert, w_pop, w_popTo, w_onl, l_l, w_putE, p_l, p_k, w_expr, w_ret, w_retN, w_ite, w_wh, w_for, w_brk, w_cont, w_pass, a_ii, a_ss, a_ll, a_tt, s_ii, m_ii, d_ii, r_ii, t_none, t_bool, t_int, t_list, t_tuple, n_int, lt_ii, le_ii, gt_ii, ge_ii, eq_ii, ne_ii, eq_bb, ne_bb, is_bb, isn_bb, i_li, i_ti, sq_l, sq_t, sq_s, ll_l, as_l, as_t, ip_i, b_lenl, b_lent, b_lens, b_abs, b_inti, b_intb, b_tl, b_isb, b_isl, b_ist, b_isi, b_isbi, l_nx, l_ct, l_bk, l_rt, slot_l, slot_k, slot_d, Option.bind_some, Option.bind_none, List.getElem?_cons_zero, List.getElem?_cons_succ, List.set_cons_zero, List.set_cons_succ, at0, at1, at2, isLst, isOwn, true_and, and_true, Bool.not_true, Bool.not_false, decide_true, decide_false, o_ite, o_iteP, p64, p50, p40, p11, p11b, p12, p6, dk2, dk3, dk4, dk5, dk7, dk8, dk10, dk16, dk32, dk64, dk128, dk1024, dk2048, dk42, dk60, dk9, dk6, asg, setAll, wipeE, reduceIte, eq_self, ite_true, ite_false, b_sum, b_sum2, es_ee, nes_ee, es_ep, nes_ep, es_et, nes_et, es_pe, nes_pe, es_pp, nes_pp, es_pt, nes_pt, es_te, nes_te, es_tp, nes_tp, es_tt, nes_tt, o_last, la_l, dk0_int, dk0_str, nl_none, nl_int, nl_var, nl_bin, nl_neg, nl_idx, nl_bi, pt_t, pt_f, sl_l, sl_t, mul_li, b_isbl, view_d, Option.map_some, tyD, mtTy, view_o, tyD_dic]
    refine ⟨mulOk_sm (by omega) (by omega) ?_ ?_, rfl, fun _ => trivial⟩
    · show -2 ^ 64 < tot nums p
      omega
    · show tot nums p < 2 ^ 64
      omega
  · simp only [startE, List.map_cons, List.map_nil, List.length_cons, List.length_nil, List.replicate, List.cons_append, List.nil_append, Nat.reduceAdd, Nat.reduceSub, w_ok, w_bind, w_ofO, o_some, o_map, o_bind, i_t, i_f, i_not, w_lit, w_glob, w_var, v_d, v_l, v_k, o_both, w_bin, w_neg, w_tru, w_not, w_and, w_or, w_cmp, w_chain, w_ife, w_call, w_bi, w_get2, w_mt, w_idx, w_slice, w_tuple, w_fr, ws_nil, ws_cons, wo_list, wo_listOf, wo_dict0, wo_dict1, wo_comp, wi_seq, wi_range1, wi_range2, wi_enum, wi_zip, wi_rev, wi_keys, w_lookf, w_lookt, w_frd, w_fro, f_l, f_k, w_fa0, w_fa1, o_view, o_viewd, o_views0, o_views1, uc_int, uc_bool, uc_str, uc_none, uc_list, uc_tuple, k_bk, k_ct, k_rt, w_nil, w_cons, w_set, w_own, w_unpack, w_par, w_put, w_append, w_insert, w_pop, w_popTo, w_onl, l_l, w_putE, p_l, p_k, w_expr, w_ret, w_retN, w_ite, w_wh, w_for, w_brk, w_cont, w_pass, a_ii, a_ss, a_ll, a_tt, s_ii, m_ii, d_ii, r_ii, t_none, t_bool, t_int, t_list, t_tuple, n_int, lt_ii, le_ii, gt_ii, ge_ii, eq_ii, ne_ii, eq_bb, ne_bb, is_bb, isn_bb, i_li, i_ti, sq_l, sq_t, sq_s, ll_l, as_l, as_t, ip_i, b_lenl, b_lent, b_lens, b_abs, b_inti, b_intb, b_tl, b_isb, b_isl, b_ist, b_isi, b_isbi, l_nx, l_ct, l_bk, l_rt, slot_l, slot_k, slot_d, Option.bind_some, Option.bind_none, List.getElem?_cons_zero, List.getElem?_cons_succ, List.set_cons_zero, List.set_cons_succ, at0, at1, at2, isLst, isOwn, true_and, and_true, Bool.not_true, Bool.not_false, decide_true, decide_false, o_ite, o_iteP, p64, p50, p40, p11, p11b, p12, p6, dk2, dk3, dk4, dk5, dk7, dk8, dk10, dk16, dk32, dk64, dk128, dk1024, dk2048, dk42, dk60, dk9, dk6, asg, setAll, wipeE, reduceIte, eq_self, ite_true, ite_false, b_sum, b_sum2, es_ee, nes_ee, es_ep, nes_ep, es_et, nes_et, es_pe, nes_pe, es_pp, nes_pp, es_pt, nes_pt, es_te, nes_te, es_tp, nes_tp, es_tt, nes_tt, o_last, la_l, dk0_int, dk0_str, nl_none, nl_int, nl_var, nl_bin, nl_neg, nl_idx, nl_bi, pt_t, pt_f, sl_l, sl_t, mul_li, b_isbl, view_d, Option.map_some, tyD, mtTy, view_o, tyD_dic]
    rw [hz.map_eq, List.length_map]
    congr 1
    unfold asb
    rw [decide_eq_true h, Bool.true_and, decide_eq_decide]
    generalize (ks nums p).filter _ = l
    constructor
    · intro z
      exact List.length_eq_zero_iff.mp (by omega)
    · intro z
      rw [z]
      rfl
end K71
end VI
set_option Elab.async false
set_option linter.all false
set_option autoImplicit false
set_option maxRecDepth 20000
namespace VI
namespace K71
open PySem AL
theorem eq_nil (l : List Int) (Q : Bool → Prop) : WO (cmpD .eq (.list (l.map .int)) (.list [])) Q = Q (decide (l = [])) := eq_ints l [] Q
/-- like numbers: like first marks -/
def Keyed (bs : List Pl) (t : List Int) : Prop := ∀ i j p q, bs[i]? = some p → bs[j]? = some q → t.getD i 0 = t.getD j 0 → key0 p = key0 q
def mkAt (bs : List Pl) (t : List Int) (i : Int) : NK := (marks bs t).getD i.toNat .none
theorem filt_idx {α : Type} [DecidableEq α] (f : Int → α) (x : α) : ∀ M : List Int, (M.map f).Nodup → x ∈ M.map f → ∃ i L, M.filter (fun i => decide (f i = x)) = i :: L ∧ i ∈ M ∧ M.idxOf i = (M.map f).idxOf x
  | [], _, h => by simp at h
  | m :: M, nd, h => by
    rw [List.map_cons] at nd h
    obtain ⟨n1, n2⟩ := List.nodup_cons.mp nd
    by_cases e : f m = x
    · exact ⟨m, M.filter (fun i => decide (f i = x)), by rw [List.filter_cons_of_pos (by simpa using e)], List.mem_cons_self, by simp [e]⟩
    · have hx : x ∈ M.map f := by
        rcases List.mem_cons.mp h with z | z
        · exact absurd z.symm e
        · exact z
      obtain ⟨i, L, h1, h2, h3⟩ := filt_idx f x M n2 hx
      have him : m ≠ i := fun z => by
        have : i ∈ M.filter (fun i => decide (f i = x)) := by rw [h1]; exact List.mem_cons_self
        have := of_decide_eq_true (List.mem_filter.mp this).2
        rw [← z] at this
        exact e this
      refine ⟨i, L, by rw [List.filter_cons_of_neg (by simpa using e), h1], List.mem_cons_of_mem _ h2, ?_⟩
      rw [List.map_cons, List.idxOf_cons, List.idxOf_cons, h3]
      have a : (m == i) = false := by simpa using him
      have b : (f m == x) = false := by simpa using e
      rw [a, b]
theorem next {Φ : Fns} {bs : List Pl} {t : List Int} (hl : bs.length ≤ 100) (ht : t.length = bs.length) (hb : ∀ p ∈ bs, OkP t.length p) (hk : Keyed bs t)
    (h16 : ∀ p q : Pl, OkP t.length p → OkP t.length q → R0 (Φ 16 [p.enc, q.enc, iL t]) fun x => x = .bool (asb t p q)) : R0 (run Φ D17 [bd bs, iL t]) fun x => x = iL (step bs t) := by
  have mm : (100 : Nat) ≤ most := by decide
  have ml : (marks bs t).length = bs.length := by simp [marks, ht]
  refine w_run ?_
  simp only [startE, List.map_cons, List.map_nil, List.length_cons, List.length_nil, List.replicate, List.cons_append, List.nil_append, Nat.reduceAdd, Nat.reduceSub, w_ok, w_bind, w_ofO, o_some, o_map, o_bind, i_t, i_f, i_d, i_not, w_lit, w_glob, w_var, v_d, v_l, v_k, o_both, w_bin, w_neg, w_tru, w_not, w_and, w_or, w_cmp, w_chain, w_ife, w_call, w_bi, w_get2, w_mt, w_idx, w_slice, w_tuple, w_fr, ws_nil, ws_cons, wo_list, wo_listOf, wo_dict0, wo_dict1, wo_comp, wi_seq, wi_range1, wi_range2, wi_enum, wi_zip, wi_rev, wi_keys, w_lookf, w_lookt, w_frd, w_fro, f_l, f_k, w_fa0, w_fa1, o_view, o_viewd, o_views0, o_views1, uc_int, uc_bool, uc_str, uc_none, uc_list, uc_tuple, k_nx, k_bk, k_ct, k_rt, w_nil, w_cons, w_set, w_own, w_unpack, w_par, w_put, w_append, w_insert, w_pop, w_popTo, w_onl, l_l, w_putE, p_l, p_k, w_expr, w_ret, w_retN, w_ite, w_wh, w_for, w_brk, w_cont, w_pass, a_ii, a_ss, a_ll, a_tt, s_ii, m_ii, d_ii, r_ii, t_none, t_bool, t_int, t_list, t_tuple, n_int, lt_ii, le_ii, gt_ii, ge_ii, eq_ii, ne_ii, eq_bb, ne_bb, is_bb, isn_bb, i_li, i_ti, sq_l, sq_t, sq_s, ll_l, as_l, as_t, ip_i, b_lenl, b_lent, b_lens, b_abs, b_inti, b_intb, b_tl, b_isb, b_isl, b_ist, b_isi, b_isbi, l_nx, l_ct, l_bk, l_rt, slot_l, slot_k, slot_d, Option.bind_some, Option.bind_none, List.getElem?_cons_zero, List.getElem?_cons_succ, List.set_cons_zero, List.set_cons_succ, at0, at1, at2, isLst, isOwn, true_and, and_true, Bool.not_true, Bool.not_false, decide_true, decide_false, o_ite, o_iteP, p64, p50, p40, p11, p11b, p12, p6, dk2, dk3, dk4, dk5, dk7, dk8, dk10, dk16, dk32, dk64, dk128, dk1024, dk2048, dk42, dk60, dk9, dk6, asg, setAll, wipeE, reduceIte, eq_self, ite_true, ite_false, b_sum, b_sum2, es_ee, nes_ee, es_ep, nes_ep, es_et, nes_et, es_pe, nes_pe, es_pp, nes_pp, es_pt, nes_pt, es_te, nes_te, es_tp, nes_tp, es_tt, nes_tt, o_last, la_l, dk0_int, dk0_str, nl_none, nl_int, nl_var, nl_bin, nl_neg, nl_idx, nl_bi, pt_t, pt_f, sl_l, sl_t, mul_li, b_isbl, view_d, Option.map_some, tyD, mtTy, view_o, tyD_dic , List.length_map]
  refine ⟨r62_sm (by omega), w_range bs.length rfl (fun k ρ => ∃ (M : List Int) (a : SV) (b : SV), ρ = [.d (bd bs), .d (iL t), .lst (M.map .int), .lst ((((marks bs t).take k).foldl nstep ([], [])).2.map .int), a, b, .unb] ∧ (∀ i ∈ M, 0 ≤ i ∧ i < k) ∧ M.map (mkAt bs t) = (((marks bs t).take k).foldl nstep ([], [])).1 ∧ M.length ≤ k ∧ (((marks bs t).take k).foldl nstep ([], [])).2.length = k) ⟨[], .unb, .unb, by simp, by simp, by simp, by simp, by simp⟩ ?_ ?_⟩
  · rintro k ρ hkl ⟨M, a, b, rfl, h1, h2, h3, h4⟩
    obtain ⟨q, hq⟩ : ∃ q, bs[k]? = some q := ⟨_, List.getElem?_eq_getElem hkl⟩
    have oq := hb q (List.mem_of_getElem? hq)
    have hx : (marks bs t)[k]? = some (mark t q (t.getD k 0)) := marks_at ht hq
    have hs : ((marks bs t).take (k + 1)).foldl nstep ([], []) = nstep (((marks bs t).take k).foldl nstep ([], [])) (mark t q (t.getD k 0)) := by
      rw [List.take_add_one, hx]
      simp [List.foldl_append]
    have nd : (((marks bs t).take k).foldl nstep ([], [])).1.Nodup := met_nodup _
    have kx : mkAt bs t k = mark t q (t.getD k 0) := by
      unfold mkAt
      rw [Int.toNat_natCast, List.getD_eq_getElem?_getD, hx]
      rfl
    rw [hs]
    generalize hst : ((marks bs t).take k).foldl nstep ([], []) = st at h2 h4 nd hs
    obtain ⟨m, acc⟩ := st
    simp only at h2 h4 nd
    simp only [startE, List.map_cons, List.map_nil, List.length_cons, List.length_nil, List.replicate, List.cons_append, List.nil_append, Nat.reduceAdd, Nat.reduceSub, w_ok, w_bind, w_ofO, o_some, o_map, o_bind, i_t, i_f, i_not, w_lit, w_glob, w_var, v_d, v_l, v_k, o_both, w_bin, w_neg, w_tru, w_not, w_and, w_or, w_cmp, w_chain, w_ife, w_call, w_bi, w_get2, w_mt, w_idx, w_slice, w_tuple, w_fr, ws_nil, ws_cons, wo_list, wo_listOf, wo_dict0, wo_dict1, wo_comp, wi_seq, wi_range1, wi_range2, wi_enum, wi_zip, wi_rev, wi_keys, w_lookf, w_lookt, w_frd, w_fro, f_l, f_k, w_fa0, w_fa1, o_view, o_viewd, o_views0, o_views1, uc_int, uc_bool, uc_str, uc_none, uc_list, uc_tuple, k_bk, k_ct, k_rt, w_nil, w_cons, w_set, w_own, w_unpack, w_par, w_put, w_append, w_insert, w_pop, w_popTo, w_onl, l_l, w_putE, p_l, p_k, w_expr, w_ret, w_retN, w_ite, w_wh, w_for, w_brk, w_cont, w_pass, a_ii, a_ss, a_ll, a_tt, s_ii, m_ii, d_ii, r_ii, t_none, t_bool, t_int, t_list, t_tuple, n_int, lt_ii, le_ii, gt_ii, ge_ii, eq_ii, ne_ii, eq_bb, ne_bb, is_bb, isn_bb, i_li, i_ti, sq_l, sq_t, sq_s, ll_l, as_l, as_t, ip_i, b_lenl, b_lent, b_lens, b_abs, b_inti, b_intb, b_tl, b_isb, b_isl, b_ist, b_isi, b_isbi, l_nx, l_ct, l_bk, l_rt, slot_l, slot_k, slot_d, Option.bind_some, Option.bind_none, List.getElem?_cons_zero, List.getElem?_cons_succ, List.set_cons_zero, List.set_cons_succ, at0, at1, at2, isLst, isOwn, true_and, and_true, Bool.not_true, Bool.not_false, decide_true, decide_false, o_ite, o_iteP, p64, p50, p40, p11, p11b, p12, p6, dk2, dk3, dk4, dk5, dk7, dk8, dk10, dk16, dk32, dk64, dk128, dk1024, dk2048, dk42, dk60, dk9, dk6, asg, setAll, wipeE, reduceIte, eq_self, ite_true, ite_false, b_sum, b_sum2, es_ee, nes_ee, es_ep, nes_ep, es_et, nes_et, es_pe, nes_pe, es_pp, nes_pp, es_pt, nes_pt, es_te, nes_te, es_tp, nes_tp, es_tt, nes_tt, o_last, la_l, dk0_int, dk0_str, nl_none, nl_int, nl_var, nl_bin, nl_neg, nl_idx, nl_bi, pt_t, pt_f, sl_l, sl_t, mul_li, b_isbl, view_d, Option.map_some, tyD, mtTy, view_o, tyD_dic]
    refine w_cw M PyData.int (fun i => decide (mkAt bs t i = mark t q (t.getD k 0))) (fun i z => z = .int i) rfl rfl (by omega) (fun i hi => ?_) fun zs hz => ?_
    · have ib := h1 i hi
      obtain ⟨j, rfl⟩ := Int.eq_ofNat_of_zero_le ib.1
      obtain ⟨p, hp⟩ : ∃ p, bs[j]? = some p := ⟨_, List.getElem?_eq_getElem (by omega)⟩
      have op := hb p (List.mem_of_getElem? hp)
      have kj : mkAt bs t j = mark t p (t.getD j 0) := by
        unfold mkAt
        rw [Int.toNat_natCast, List.getD_eq_getElem?_getD, marks_at ht hp]
        rfl
      simp only [startE, List.map_cons, List.map_nil, List.length_cons, List.length_nil, List.replicate, List.cons_append, List.nil_append, Nat.reduceAdd, Nat.reduceSub, w_ok, w_bind, w_ofO, o_some, o_map, o_bind, i_t, i_f, i_not, w_lit, w_glob, w_var, v_d, v_l, v_k, o_both, w_bin, w_neg, w_tru, w_not, w_and, w_or, w_cmp, w_chain, w_ife, w_call, w_bi, w_get2, w_mt, w_idx, w_slice, w_tuple, w_fr, ws_nil, ws_cons, wo_list, wo_listOf, wo_dict0, wo_dict1, wo_comp, wi_seq, wi_range1, wi_range2, wi_enum, wi_zip, wi_rev, wi_keys, w_lookf, w_lookt, w_frd, w_fro, f_l, f_k, w_fa0, w_fa1, o_view, o_viewd, o_views0, o_views1, uc_int, uc_bool, uc_str, uc_none, uc_list, uc_tuple, k_bk, k_ct, k_rt, w_nil, w_cons, w_set, w_own, w_unpack, w_par, w_put, w_append, w_insert, w_pop, w_popTo, w_onl, l_l, w_putE, p_l, p_k, w_expr, w_ret, w_retN, w_ite, w_wh, w_for, w_brk, w_cont, w_pass, a_ii, a_ss, a_ll, a_tt, s_ii, m_ii, d_ii, r_ii, t_none, t_bool, t_int, t_list, t_tuple, n_int, lt_ii, le_ii, gt_ii, ge_ii, eq_ii, ne_ii, eq_bb, ne_bb, is_bb, isn_bb, i_li, i_ti, sq_l, sq_t, sq_s, ll_l, as_l, as_t, ip_i, b_lenl, b_lent, b_lens, b_abs, b_inti, b_intb, b_tl, b_isb, b_isl, b_ist, b_isi, b_isbi, l_nx, l_ct, l_bk, l_rt, slot_l, slot_k, slot_d, Option.bind_some, Option.bind_none, List.getElem?_cons_zero, List.getElem?_cons_succ, List.set_cons_zero, List.set_cons_succ, at0, at1, at2, isLst, isOwn, true_and, and_true, Bool.not_true, Bool.not_false, decide_true, decide_false, o_ite, o_iteP, p64, p50, p40, p11, p11b, p12, p6, dk2, dk3, dk4, dk5, dk7, dk8, dk10, dk16, dk32, dk64, dk128, dk1024, dk2048, dk42, dk60, dk9, dk6, asg, setAll, wipeE, reduceIte, eq_self, ite_true, ite_false, b_sum, b_sum2, es_ee, nes_ee, es_ep, nes_ep, es_et, nes_et, es_pe, nes_pe, es_pp, nes_pp, es_pt, nes_pt, es_te, nes_te, es_tp, nes_tp, es_tt, nes_tt, o_last, la_l, dk0_int, dk0_str, nl_none, nl_int, nl_var, nl_bin, nl_neg, nl_idx, nl_bi, pt_t, pt_f, sl_l, sl_t, mul_li, b_isbl, view_d, Option.map_some, tyD, mtTy, view_o, tyD_dic]
      rw [at_cl ⟨by omega, by omega⟩, o_some, at_cl ⟨by omega, by omega⟩, o_some, eq_ii]
      simp only [startE, List.map_cons, List.map_nil, List.length_cons, List.length_nil, List.replicate, List.cons_append, List.nil_append, Nat.reduceAdd, Nat.reduceSub, w_ok, w_bind, w_ofO, o_some, o_map, o_bind, i_t, i_f, i_not, w_lit, w_glob, w_var, v_d, v_l, v_k, o_both, w_bin, w_neg, w_tru, w_not, w_and, w_or, w_cmp, w_chain, w_ife, w_call, w_bi, w_get2, w_mt, w_idx, w_slice, w_tuple, w_fr, ws_nil, ws_cons, wo_list, wo_listOf, wo_dict0, wo_dict1, wo_comp, wi_seq, wi_range1, wi_range2, wi_enum, wi_zip, wi_rev, wi_keys, w_lookf, w_lookt, w_frd, w_fro, f_l, f_k, w_fa0, w_fa1, o_view, o_viewd, o_views0, o_views1, uc_int, uc_bool, uc_str, uc_none, uc_list, uc_tuple, k_bk, k_ct, k_rt, w_nil, w_cons, w_set, w_own, w_unpack, w_par, w_put, w_append, w_insert, w_pop, w_popTo, w_onl, l_l, w_putE, p_l, p_k, w_expr, w_ret, w_retN, w_ite, w_wh, w_for, w_brk, w_cont, w_pass, a_ii, a_ss, a_ll, a_tt, s_ii, m_ii, d_ii, r_ii, t_none, t_bool, t_int, t_list, t_tuple, n_int, lt_ii, le_ii, gt_ii, ge_ii, eq_ii, ne_ii, eq_bb, ne_bb, is_bb, isn_bb, i_li, i_ti, sq_l, sq_t, sq_s, ll_l, as_l, as_t, ip_i, b_lenl, b_lent, b_lens, b_abs, b_inti, b_intb, b_tl, b_isb, b_isl, b_ist, b_isi, b_isbi, l_nx, l_ct, l_bk, l_rt, slot_l, slot_k, slot_d, Option.bind_some, Option.bind_none, List.getElem?_cons_zero, List.getElem?_cons_succ, List.set_cons_zero, List.set_cons_succ, at0, at1, at2, isLst, isOwn, true_and, and_true, Bool.not_true, Bool.not_false, decide_true, decide_false, o_ite, o_iteP, p64, p50, p40, p11, p11b, p12, p6, dk2, dk3, dk4, dk5, dk7, dk8, dk10, dk16, dk32, dk64, dk128, dk1024, dk2048, dk42, dk60, dk9, dk6, asg, setAll, wipeE, reduceIte, eq_self, ite_true, ite_false, b_sum, b_sum2, es_ee, nes_ee, es_ep, nes_ep, es_et, nes_et, es_pe, nes_pe, es_pp, nes_pp, es_pt, nes_pt, es_te, nes_te, es_tp, nes_tp, es_tt, nes_tt, o_last, la_l, dk0_int, dk0_str, nl_none, nl_int, nl_var, nl_bin, nl_neg, nl_idx, nl_bi, pt_t, pt_f, sl_l, sl_t, mul_li, b_isbl, view_d, Option.map_some, tyD, mtTy, view_o, tyD_dic, cl_nat]
      rw [kj]
      refine WI_d (fun e => ?_) fun e => ?_
      · simp only [startE, List.map_cons, List.map_nil, List.length_cons, List.length_nil, List.replicate, List.cons_append, List.nil_append, Nat.reduceAdd, Nat.reduceSub, w_ok, w_bind, w_ofO, o_some, o_map, o_bind, i_t, i_f, i_not, w_lit, w_glob, w_var, v_d, v_l, v_k, o_both, w_bin, w_neg, w_tru, w_not, w_and, w_or, w_cmp, w_chain, w_ife, w_call, w_bi, w_get2, w_mt, w_idx, w_slice, w_tuple, w_fr, ws_nil, ws_cons, wo_list, wo_listOf, wo_dict0, wo_dict1, wo_comp, wi_seq, wi_range1, wi_range2, wi_enum, wi_zip, wi_rev, wi_keys, w_lookf, w_lookt, w_frd, w_fro, f_l, f_k, w_fa0, w_fa1, o_view, o_viewd, o_views0, o_views1, uc_int, uc_bool, uc_str, uc_none, uc_list, uc_tuple, k_bk, k_ct, k_rt, w_nil, w_cons, w_set, w_own, w_unpack, w_par, w_put, w_append, w_insert, w_pop, w_popTo, w_onl, l_l, w_putE, p_l, p_k, w_expr, w_ret, w_retN, w_ite, w_wh, w_for, w_brk, w_cont, w_pass, a_ii, a_ss, a_ll, a_tt, s_ii, m_ii, d_ii, r_ii, t_none, t_bool, t_int, t_list, t_tuple, n_int, lt_ii, le_ii, gt_ii, ge_ii, eq_ii, ne_ii, eq_bb, ne_bb, is_bb, isn_bb, i_li, i_ti, sq_l, sq_t, sq_s, ll_l, as_l, as_t, ip_i, b_lenl, b_lent, b_lens, b_abs, b_inti, b_intb, b_tl, b_isb, b_isl, b_ist, b_isi, b_isbi, l_nx, l_ct, l_bk, l_rt, slot_l, slot_k, slot_d, Option.bind_some, Option.bind_none, List.getElem?_cons_zero, List.getElem?_cons_succ, List.set_cons_zero, List.set_cons_succ, at0, at1, at2, isLst, isOwn, true_and, and_true, Bool.not_true, Bool.not_false, decide_true, decide_false, o_ite, o_iteP, p64, p50, p40, p11, p11b, p12, p6, dk2, dk3, dk4, dk5, dk7, dk8, dk10, dk16, dk32, dk64, dk128, dk1024, dk2048, dk42, dk60, dk9, dk6, asg, setAll, wipeE, reduceIte, eq_self, ite_true, ite_false, b_sum, b_sum2, es_ee, nes_ee, es_ep, nes_ep, es_et, nes_et, es_pe, nes_pe, es_pp, nes_pp, es_pt, nes_pt, es_te, nes_te, es_tp, nes_tp, es_tt, nes_tt, o_last, la_l, dk0_int, dk0_str, nl_none, nl_int, nl_var, nl_bin, nl_neg, nl_idx, nl_bi, pt_t, pt_f, sl_l, sl_t, mul_li, b_isbl, view_d, Option.map_some, tyD, mtTy, view_o, tyD_dic, at_nat, List.getElem?_map, hp, hq, Option.map_some]
        refine call0 (h16 p q op oq) rfl ?_
        rintro _ rfl
        simp only [startE, List.map_cons, List.map_nil, List.length_cons, List.length_nil, List.replicate, List.cons_append, List.nil_append, Nat.reduceAdd, Nat.reduceSub, w_ok, w_bind, w_ofO, o_some, o_map, o_bind, i_t, i_f, i_not, w_lit, w_glob, w_var, v_d, v_l, v_k, o_both, w_bin, w_neg, w_tru, w_not, w_and, w_or, w_cmp, w_chain, w_ife, w_call, w_bi, w_get2, w_mt, w_idx, w_slice, w_tuple, w_fr, ws_nil, ws_cons, wo_list, wo_listOf, wo_dict0, wo_dict1, wo_comp, wi_seq, wi_range1, wi_range2, wi_enum, wi_zip, wi_rev, wi_keys, w_lookf, w_lookt, w_frd, w_fro, f_l, f_k, w_fa0, w_fa1, o_view, o_viewd, o_views0, o_views1, uc_int, uc_bool, uc_str, uc_none, uc_list, uc_tuple, k_bk, k_ct, k_rt, w_nil, w_cons, w_set, w_own, w_unpack, w_par, w_put, w_append, w_insert, w_pop, w_popTo, w_onl, l_l, w_putE, p_l, p_k, w_expr, w_ret, w_retN, w_ite, w_wh, w_for, w_brk, w_cont, w_pass, a_ii, a_ss, a_ll, a_tt, s_ii, m_ii, d_ii, r_ii, t_none, t_bool, t_int, t_list, t_tuple, n_int, lt_ii, le_ii, gt_ii, ge_ii, eq_ii, ne_ii, eq_bb, ne_bb, is_bb, isn_bb, i_li, i_ti, sq_l, sq_t, sq_s, ll_l, as_l, as_t, ip_i, b_lenl, b_lent, b_lens, b_abs, b_inti, b_intb, b_tl, b_isb, b_isl, b_ist, b_isi, b_isbi, l_nx, l_ct, l_bk, l_rt, slot_l, slot_k, slot_d, Option.bind_some, Option.bind_none, List.getElem?_cons_zero, List.getElem?_cons_succ, List.set_cons_zero, List.set_cons_succ, at0, at1, at2, isLst, isOwn, true_and, and_true, Bool.not_true, Bool.not_false, decide_true, decide_false, o_ite, o_iteP, p64, p50, p40, p11, p11b, p12, p6, dk2, dk3, dk4, dk5, dk7, dk8, dk10, dk16, dk32, dk64, dk128, dk1024, dk2048, dk42, dk60, dk9, dk6, asg, setAll, wipeE, reduceIte, eq_self, ite_true, ite_false, b_sum, b_sum2, es_ee, nes_ee, es_ep, nes_ep, es_et, nes_et, es_pe, nes_pe, es_pp, nes_pp, es_pt, nes_pt, es_te, nes_te, es_tp, nes_tp, es_tt, nes_tt, o_last, la_l, dk0_int, dk0_str, nl_none, nl_int, nl_var, nl_bin, nl_neg, nl_idx, nl_bi, pt_t, pt_f, sl_l, sl_t, mul_li, b_isbl, view_d, Option.map_some, tyD, mtTy, view_o, tyD_dic]
        have := asb_iff (nums := t) op oq (key0_kind (hk j k p q hp hq e))
        refine ⟨?_, fun _ => trivial⟩
        rw [Bool.eq_iff_iff, this, decide_eq_true_eq, mark_iff]
        exact ⟨fun z => ⟨e, z⟩, fun z => z.2⟩
      · refine ⟨?_, fun _ => trivial⟩
        rw [decide_eq_decide, mark_iff]
        exact ⟨fun z => absurd z e, fun z => z.1⟩
    · rw [hz.map_eq]
      simp only [startE, List.map_cons, List.map_nil, List.length_cons, List.length_nil, List.replicate, List.cons_append, List.nil_append, Nat.reduceAdd, Nat.reduceSub, w_ok, w_bind, w_ofO, o_some, o_map, o_bind, i_t, i_f, i_not, w_lit, w_glob, w_var, v_d, v_l, v_k, o_both, w_bin, w_neg, w_tru, w_not, w_and, w_or, w_cmp, w_chain, w_ife, w_call, w_bi, w_get2, w_mt, w_idx, w_slice, w_tuple, w_fr, ws_nil, ws_cons, wo_list, wo_listOf, wo_dict0, wo_dict1, wo_comp, wi_seq, wi_range1, wi_range2, wi_enum, wi_zip, wi_rev, wi_keys, w_lookf, w_lookt, w_frd, w_fro, f_l, f_k, w_fa0, w_fa1, o_view, o_viewd, o_views0, o_views1, uc_int, uc_bool, uc_str, uc_none, uc_list, uc_tuple, k_bk, k_ct, k_rt, w_nil, w_cons, w_set, w_own, w_unpack, w_par, w_put, w_append, w_insert, w_pop, w_popTo, w_onl, l_l, w_putE, p_l, p_k, w_expr, w_ret, w_retN, w_ite, w_wh, w_for, w_brk, w_cont, w_pass, a_ii, a_ss, a_ll, a_tt, s_ii, m_ii, d_ii, r_ii, t_none, t_bool, t_int, t_list, t_tuple, n_int, lt_ii, le_ii, gt_ii, ge_ii, eq_ii, ne_ii, eq_bb, ne_bb, is_bb, isn_bb, i_li, i_ti, sq_l, sq_t, sq_s, ll_l, as_l, as_t, ip_i, b_lenl, b_lent, b_lens, b_abs, b_inti, b_intb, b_tl, b_isb, b_isl, b_ist, b_isi, b_isbi, l_nx, l_ct, l_bk, l_rt, slot_l, slot_k, slot_d, Option.bind_some, Option.bind_none, List.getElem?_cons_zero, List.getElem?_cons_succ, List.set_cons_zero, List.set_cons_succ, at0, at1, at2, isLst, isOwn, true_and, and_true, Bool.not_true, Bool.not_false, decide_true, decide_false, o_ite, o_iteP, p64, p50, p40, p11, p11b, p12, p6, dk2, dk3, dk4, dk5, dk7, dk8, dk10, dk16, dk32, dk64, dk128, dk1024, dk2048, dk42, dk60, dk9, dk6, asg, setAll, wipeE, reduceIte, eq_self, ite_true, ite_false, b_sum, b_sum2, es_ee, nes_ee, es_ep, nes_ep, es_et, nes_et, es_pe, nes_pe, es_pp, nes_pp, es_pt, nes_pt, es_te, nes_te, es_tp, nes_tp, es_tt, nes_tt, o_last, la_l, dk0_int, dk0_str, nl_none, nl_int, nl_var, nl_bin, nl_neg, nl_idx, nl_bi, pt_t, pt_f, sl_l, sl_t, mul_li, b_isbl, view_d, Option.map_some, tyD, mtTy, view_o, tyD_dic]
      rw [k_nx]
      simp only [startE, List.map_cons, List.map_nil, List.length_cons, List.length_nil, List.replicate, List.cons_append, List.nil_append, Nat.reduceAdd, Nat.reduceSub, w_ok, w_bind, w_ofO, o_some, o_map, o_bind, i_t, i_f, i_not, w_lit, w_glob, w_var, v_d, v_l, v_k, o_both, w_bin, w_neg, w_tru, w_not, w_and, w_or, w_cmp, w_chain, w_ife, w_call, w_bi, w_get2, w_mt, w_idx, w_slice, w_tuple, w_fr, ws_nil, ws_cons, wo_list, wo_listOf, wo_dict0, wo_dict1, wo_comp, wi_seq, wi_range1, wi_range2, wi_enum, wi_zip, wi_rev, wi_keys, w_lookf, w_lookt, w_frd, w_fro, f_l, f_k, w_fa0, w_fa1, o_view, o_viewd, o_views0, o_views1, uc_int, uc_bool, uc_str, uc_none, uc_list, uc_tuple, k_bk, k_ct, k_rt, w_nil, w_cons, w_set, w_own, w_unpack, w_par, w_put, w_append, w_insert, w_pop, w_popTo, w_onl, l_l, w_putE, p_l, p_k, w_expr, w_ret, w_retN, w_ite, w_wh, w_for, w_brk, w_cont, w_pass, a_ii, a_ss, a_ll, a_tt, s_ii, m_ii, d_ii, r_ii, t_none, t_bool, t_int, t_list, t_tuple, n_int, lt_ii, le_ii, gt_ii, ge_ii, eq_ii, ne_ii, eq_bb, ne_bb, is_bb, isn_bb, i_li, i_ti, sq_l, sq_t, sq_s, ll_l, as_l, as_t, ip_i, b_lenl, b_lent, b_lens, b_abs, b_inti, b_intb, b_tl, b_isb, b_isl, b_ist, b_isi, b_isbi, l_nx, l_ct, l_bk, l_rt, slot_l, slot_k, slot_d, Option.bind_some, Option.bind_none, List.getElem?_cons_zero, List.getElem?_cons_succ, List.set_cons_zero, List.set_cons_succ, at0, at1, at2, isLst, isOwn, true_and, and_true, Bool.not_true, Bool.not_false, decide_true, decide_false, o_ite, o_iteP, p64, p50, p40, p11, p11b, p12, p6, dk2, dk3, dk4, dk5, dk7, dk8, dk10, dk16, dk32, dk64, dk128, dk1024, dk2048, dk42, dk60, dk9, dk6, asg, setAll, wipeE, reduceIte, eq_self, ite_true, ite_false, b_sum, b_sum2, es_ee, nes_ee, es_ep, nes_ep, es_et, nes_et, es_pe, nes_pe, es_pp, nes_pp, es_pt, nes_pt, es_te, nes_te, es_tp, nes_tp, es_tt, nes_tt, o_last, la_l, dk0_int, dk0_str, nl_none, nl_int, nl_var, nl_bin, nl_neg, nl_idx, nl_bi, pt_t, pt_f, sl_l, sl_t, mul_li, b_isbl, view_d, Option.map_some, tyD, mtTy, view_o, tyD_dic]
      rw [eq_nil]
      try simp only [startE, List.map_cons, List.map_nil, List.length_cons, List.length_nil, List.replicate, List.cons_append, List.nil_append, Nat.reduceAdd, Nat.reduceSub, w_ok, w_bind, w_ofO, o_some, o_map, o_bind, i_t, i_f, i_not, w_lit, w_glob, w_var, v_d, v_l, v_k, o_both, w_bin, w_neg, w_tru, w_not, w_and, w_or, w_cmp, w_chain, w_ife, w_call, w_bi, w_get2, w_mt, w_idx, w_slice, w_tuple, w_fr, ws_nil, ws_cons, wo_list, wo_listOf, wo_dict0, wo_dict1, wo_comp, wi_seq, wi_range1, wi_range2, wi_enum, wi_zip, wi_rev, wi_keys, w_lookf, w_lookt, w_frd, w_fro, f_l, f_k, w_fa0, w_fa1, o_view, o_viewd, o_views0, o_views1, uc_int, uc_bool, uc_str, uc_none, uc_list, uc_tuple, k_bk, k_ct, k_rt, w_nil, w_cons, w_set, w_own, w_unpack, w_par, w_put, w_append, w_insert, w_pop, w_popTo, w_onl, l_l, w_putE, p_l, p_k, w_expr, w_ret, w_retN, w_ite, w_wh, w_for, w_brk, w_cont, w_pass, a_ii, a_ss, a_ll, a_tt, s_ii, m_ii, d_ii, r_ii, t_none, t_bool, t_int, t_list, t_tuple, n_int, lt_ii, le_ii, gt_ii, ge_ii, eq_ii, ne_ii, eq_bb, ne_bb, is_bb, isn_bb, i_li, i_ti, sq_l, sq_t, sq_s, ll_l, as_l, as_t, ip_i, b_lenl, b_lent, b_lens, b_abs, b_inti, b_intb, b_tl, b_isb, b_isl, b_ist, b_isi, b_isbi, l_nx, l_ct, l_bk, l_rt, slot_l, slot_k, slot_d, Option.bind_some, Option.bind_none, List.getElem?_cons_zero, List.getElem?_cons_succ, List.set_cons_zero, List.set_cons_succ, at0, at1, at2, isLst, isOwn, true_and, and_true, Bool.not_true, Bool.not_false, decide_true, decide_false, o_ite, o_iteP, p64, p50, p40, p11, p11b, p12, p6, dk2, dk3, dk4, dk5, dk7, dk8, dk10, dk16, dk32, dk64, dk128, dk1024, dk2048, dk42, dk60, dk9, dk6, asg, setAll, wipeE, reduceIte, eq_self, ite_true, ite_false, b_sum, b_sum2, es_ee, nes_ee, es_ep, nes_ep, es_et, nes_et, es_pe, nes_pe, es_pp, nes_pp, es_pt, nes_pt, es_te, nes_te, es_tp, nes_tp, es_tt, nes_tt, o_last, la_l, dk0_int, dk0_str, nl_none, nl_int, nl_var, nl_bin, nl_neg, nl_idx, nl_bi, pt_t, pt_f, sl_l, sl_t, mul_li, b_isbl, view_d, Option.map_some, tyD, mtTy, view_o, tyD_dic]
      by_cases hin : mark t q (t.getD k 0) ∈ m
      · obtain ⟨i, L, f1, f2, f3⟩ := filt_idx (mkAt bs t) (mark t q (t.getD k 0)) M (by rw [h2]; exact nd) (by rw [h2]; exact hin)
        rw [f1]
        refine WI_f (by simp) ?_
        have ib := h1 i f2
        have e1 : nstep (m, acc) (mark t q (t.getD k 0)) = (m, acc ++ [(m.idxOf (mark t q (t.getD k 0)) : Int)]) := by
          show (if _ ∈ m then _ else _) = _
          rw [if_pos hin]
        rw [e1]
        try rw [k_nx]
        simp only [startE, List.map_cons, List.map_nil, List.length_cons, List.length_nil, List.replicate, List.cons_append, List.nil_append, Nat.reduceAdd, Nat.reduceSub, w_ok, w_bind, w_ofO, o_some, o_map, o_bind, i_t, i_f, i_not, w_lit, w_glob, w_var, v_d, v_l, v_k, o_both, w_bin, w_neg, w_tru, w_not, w_and, w_or, w_cmp, w_chain, w_ife, w_call, w_bi, w_get2, w_mt, w_idx, w_slice, w_tuple, w_fr, ws_nil, ws_cons, wo_list, wo_listOf, wo_dict0, wo_dict1, wo_comp, wi_seq, wi_range1, wi_range2, wi_enum, wi_zip, wi_rev, wi_keys, w_lookf, w_lookt, w_frd, w_fro, f_l, f_k, w_fa0, w_fa1, o_view, o_viewd, o_views0, o_views1, uc_int, uc_bool, uc_str, uc_none, uc_list, uc_tuple, k_bk, k_ct, k_rt, w_nil, w_cons, w_set, w_own, w_unpack, w_par, w_put, w_append, w_insert, w_pop, w_popTo, w_onl, l_l, w_putE, p_l, p_k, w_expr, w_ret, w_retN, w_ite, w_wh, w_for, w_brk, w_cont, w_pass, a_ii, a_ss, a_ll, a_tt, s_ii, m_ii, d_ii, r_ii, t_none, t_bool, t_int, t_list, t_tuple, n_int, lt_ii, le_ii, gt_ii, ge_ii, eq_ii, ne_ii, eq_bb, ne_bb, is_bb, isn_bb, i_li, i_ti, sq_l, sq_t, sq_s, ll_l, as_l, as_t, ip_i, b_lenl, b_lent, b_lens, b_abs, b_inti, b_intb, b_tl, b_isb, b_isl, b_ist, b_isi, b_isbi, l_nx, l_ct, l_bk, l_rt, slot_l, slot_k, slot_d, Option.bind_some, Option.bind_none, List.getElem?_cons_zero, List.getElem?_cons_succ, List.set_cons_zero, List.set_cons_succ, at0, at1, at2, isLst, isOwn, true_and, and_true, Bool.not_true, Bool.not_false, decide_true, decide_false, o_ite, o_iteP, p64, p50, p40, p11, p11b, p12, p6, dk2, dk3, dk4, dk5, dk7, dk8, dk10, dk16, dk32, dk64, dk128, dk1024, dk2048, dk42, dk60, dk9, dk6, asg, setAll, wipeE, reduceIte, eq_self, ite_true, ite_false, b_sum, b_sum2, es_ee, nes_ee, es_ep, nes_ep, es_et, nes_et, es_pe, nes_pe, es_pp, nes_pp, es_pt, nes_pt, es_te, nes_te, es_tp, nes_tp, es_tt, nes_tt, o_last, la_l, dk0_int, dk0_str, nl_none, nl_int, nl_var, nl_bin, nl_neg, nl_idx, nl_bi, pt_t, pt_f, sl_l, sl_t, mul_li, b_isbl, view_d, Option.map_some, tyD, mtTy, view_o, tyD_dic, List.map_cons, true_and]
        rw [ix_ints _ _ f2, f3, h2]
        simp only [startE, List.map_cons, List.map_nil, List.length_cons, List.length_nil, List.replicate, List.cons_append, List.nil_append, Nat.reduceAdd, Nat.reduceSub, w_ok, w_bind, w_ofO, o_some, o_map, o_bind, i_t, i_f, i_d, i_not, w_lit, w_glob, w_var, v_d, v_l, v_k, o_both, w_bin, w_neg, w_tru, w_not, w_and, w_or, w_cmp, w_chain, w_ife, w_call, w_bi, w_get2, w_mt, w_idx, w_slice, w_tuple, w_fr, ws_nil, ws_cons, wo_list, wo_listOf, wo_dict0, wo_dict1, wo_comp, wi_seq, wi_range1, wi_range2, wi_enum, wi_zip, wi_rev, wi_keys, w_lookf, w_lookt, w_frd, w_fro, f_l, f_k, w_fa0, w_fa1, o_view, o_viewd, o_views0, o_views1, uc_int, uc_bool, uc_str, uc_none, uc_list, uc_tuple, k_nx, k_bk, k_ct, k_rt, w_nil, w_cons, w_set, w_own, w_unpack, w_par, w_put, w_append, w_insert, w_pop, w_popTo, w_onl, l_l, w_putE, p_l, p_k, w_expr, w_ret, w_retN, w_ite, w_wh, w_for, w_brk, w_cont, w_pass, a_ii, a_ss, a_ll, a_tt, s_ii, m_ii, d_ii, r_ii, t_none, t_bool, t_int, t_list, t_tuple, n_int, lt_ii, le_ii, gt_ii, ge_ii, eq_ii, ne_ii, eq_bb, ne_bb, is_bb, isn_bb, i_li, i_ti, sq_l, sq_t, sq_s, ll_l, as_l, as_t, ip_i, b_lenl, b_lent, b_lens, b_abs, b_inti, b_intb, b_tl, b_isb, b_isl, b_ist, b_isi, b_isbi, l_nx, l_ct, l_bk, l_rt, slot_l, slot_k, slot_d, Option.bind_some, Option.bind_none, List.getElem?_cons_zero, List.getElem?_cons_succ, List.set_cons_zero, List.set_cons_succ, at0, at1, at2, isLst, isOwn, true_and, and_true, Bool.not_true, Bool.not_false, decide_true, decide_false, o_ite, o_iteP, p64, p50, p40, p11, p11b, p12, p6, dk2, dk3, dk4, dk5, dk7, dk8, dk10, dk16, dk32, dk64, dk128, dk1024, dk2048, dk42, dk60, dk9, dk6, asg, setAll, wipeE, reduceIte, eq_self, ite_true, ite_false, b_sum, b_sum2, es_ee, nes_ee, es_ep, nes_ep, es_et, nes_et, es_pe, nes_pe, es_pp, nes_pp, es_pt, nes_pt, es_te, nes_te, es_tp, nes_tp, es_tt, nes_tt, o_last, la_l, dk0_int, dk0_str, nl_none, nl_int, nl_var, nl_bin, nl_neg, nl_idx, nl_bi, pt_t, pt_f, sl_l, sl_t, mul_li, b_isbl, view_d, Option.map_some, tyD, mtTy, view_o, tyD_dic ]
        refine ⟨small_of (by simp; omega), M, _, _, by simp; exact ⟨rfl, rfl⟩, fun j hj => by have := h1 j hj; omega, h2, by omega, by simp; omega⟩
      · have fe : M.filter (fun i => decide (mkAt bs t i = mark t q (t.getD k 0))) = [] := by
          rw [List.filter_eq_nil_iff]
          intro i hi z
          refine hin ?_
          rw [← h2]
          exact List.mem_map.mpr ⟨i, hi, of_decide_eq_true z⟩
        rw [fe]
        refine WI_t rfl ?_
        have e1 : nstep (m, acc) (mark t q (t.getD k 0)) = (m ++ [mark t q (t.getD k 0)], acc ++ [(m.length : Int)]) := by
          show (if _ ∈ m then _ else _) = _
          rw [if_neg hin]
        rw [e1]
        have hm : M.length = m.length := by rw [← h2, List.length_map]
        have hkm : (k : Int) ∉ M := fun z => by have := h1 _ z; omega
        have e2 : (M.map PyData.int ++ [PyData.int (k : Int)]) = (M ++ [(k : Int)]).map .int := by simp
        simp only [startE, List.map_cons, List.map_nil, List.length_cons, List.length_nil, List.replicate, List.cons_append, List.nil_append, Nat.reduceAdd, Nat.reduceSub, w_ok, w_bind, w_ofO, o_some, o_map, o_bind, i_t, i_f, i_d, i_not, w_lit, w_glob, w_var, v_d, v_l, v_k, o_both, w_bin, w_neg, w_tru, w_not, w_and, w_or, w_cmp, w_chain, w_ife, w_call, w_bi, w_get2, w_mt, w_idx, w_slice, w_tuple, w_fr, ws_nil, ws_cons, wo_list, wo_listOf, wo_dict0, wo_dict1, wo_comp, wi_seq, wi_range1, wi_range2, wi_enum, wi_zip, wi_rev, wi_keys, w_lookf, w_lookt, w_frd, w_fro, f_l, f_k, w_fa0, w_fa1, o_view, o_viewd, o_views0, o_views1, uc_int, uc_bool, uc_str, uc_none, uc_list, uc_tuple, k_nx, k_bk, k_ct, k_rt, w_nil, w_cons, w_set, w_own, w_unpack, w_par, w_put, w_append, w_insert, w_pop, w_popTo, w_onl, l_l, w_putE, p_l, p_k, w_expr, w_ret, w_retN, w_ite, w_wh, w_for, w_brk, w_cont, w_pass, a_ii, a_ss, a_ll, a_tt, s_ii, m_ii, d_ii, r_ii, t_none, t_bool, t_int, t_list, t_tuple, n_int, lt_ii, le_ii, gt_ii, ge_ii, eq_ii, ne_ii, eq_bb, ne_bb, is_bb, isn_bb, i_li, i_ti, sq_l, sq_t, sq_s, ll_l, as_l, as_t, ip_i, b_lenl, b_lent, b_lens, b_abs, b_inti, b_intb, b_tl, b_isb, b_isl, b_ist, b_isi, b_isbi, l_nx, l_ct, l_bk, l_rt, slot_l, slot_k, slot_d, Option.bind_some, Option.bind_none, List.getElem?_cons_zero, List.getElem?_cons_succ, List.set_cons_zero, List.set_cons_succ, at0, at1, at2, isLst, isOwn, true_and, and_true, Bool.not_true, Bool.not_false, decide_true, decide_false, o_ite, o_iteP, p64, p50, p40, p11, p11b, p12, p6, dk2, dk3, dk4, dk5, dk7, dk8, dk10, dk16, dk32, dk64, dk128, dk1024, dk2048, dk42, dk60, dk9, dk6, asg, setAll, wipeE, reduceIte, eq_self, ite_true, ite_false, b_sum, b_sum2, es_ee, nes_ee, es_ep, nes_ep, es_et, nes_et, es_pe, nes_pe, es_pp, nes_pp, es_pt, nes_pt, es_te, nes_te, es_tp, nes_tp, es_tt, nes_tt, o_last, la_l, dk0_int, dk0_str, nl_none, nl_int, nl_var, nl_bin, nl_neg, nl_idx, nl_bi, pt_t, pt_f, sl_l, sl_t, mul_li, b_isbl, view_d, Option.map_some, tyD, mtTy, view_o, tyD_dic , e2]
        refine ⟨small_of (by simp; omega), ?_⟩
        have ix : (M ++ [(k : Int)]).idxOf (k : Int) = m.length := by rw [idx_new hkm, hm]
        rw [ix_ints _ _ (by simp), ix]
        refine ⟨small_of (by simp; omega), M ++ [(k : Int)], .d (.int k), .lst [.int k], by simp, fun j hj => ?_, ?_, by simp; omega, by simp; omega⟩
        · rcases List.mem_append.mp hj with hj | hj
          · have := h1 j hj; omega
          · rw [List.mem_singleton] at hj; omega
        · rw [List.map_append, h2, List.map_cons, List.map_nil, kx]
  · rintro ρ ⟨M, a, b, rfl, h1, h2, h3, h4⟩
    simp only [startE, List.map_cons, List.map_nil, List.length_cons, List.length_nil, List.replicate, List.cons_append, List.nil_append, Nat.reduceAdd, Nat.reduceSub, w_ok, w_bind, w_ofO, o_some, o_map, o_bind, i_t, i_f, i_d, i_not, w_lit, w_glob, w_var, v_d, v_l, v_k, o_both, w_bin, w_neg, w_tru, w_not, w_and, w_or, w_cmp, w_chain, w_ife, w_call, w_bi, w_get2, w_mt, w_idx, w_slice, w_tuple, w_fr, ws_nil, ws_cons, wo_list, wo_listOf, wo_dict0, wo_dict1, wo_comp, wi_seq, wi_range1, wi_range2, wi_enum, wi_zip, wi_rev, wi_keys, w_lookf, w_lookt, w_frd, w_fro, f_l, f_k, w_fa0, w_fa1, o_view, o_viewd, o_views0, o_views1, uc_int, uc_bool, uc_str, uc_none, uc_list, uc_tuple, k_nx, k_bk, k_ct, k_rt, w_nil, w_cons, w_set, w_own, w_unpack, w_par, w_put, w_append, w_insert, w_pop, w_popTo, w_onl, l_l, w_putE, p_l, p_k, w_expr, w_ret, w_retN, w_ite, w_wh, w_for, w_brk, w_cont, w_pass, a_ii, a_ss, a_ll, a_tt, s_ii, m_ii, d_ii, r_ii, t_none, t_bool, t_int, t_list, t_tuple, n_int, lt_ii, le_ii, gt_ii, ge_ii, eq_ii, ne_ii, eq_bb, ne_bb, is_bb, isn_bb, i_li, i_ti, sq_l, sq_t, sq_s, ll_l, as_l, as_t, ip_i, b_lenl, b_lent, b_lens, b_abs, b_inti, b_intb, b_tl, b_isb, b_isl, b_ist, b_isi, b_isbi, l_nx, l_ct, l_bk, l_rt, slot_l, slot_k, slot_d, Option.bind_some, Option.bind_none, List.getElem?_cons_zero, List.getElem?_cons_succ, List.set_cons_zero, List.set_cons_succ, at0, at1, at2, isLst, isOwn, true_and, and_true, Bool.not_true, Bool.not_false, decide_true, decide_false, o_ite, o_iteP, p64, p50, p40, p11, p11b, p12, p6, dk2, dk3, dk4, dk5, dk7, dk8, dk10, dk16, dk32, dk64, dk128, dk1024, dk2048, dk42, dk60, dk9, dk6, asg, setAll, wipeE, reduceIte, eq_self, ite_true, ite_false, b_sum, b_sum2, es_ee, nes_ee, es_ep, nes_ep, es_et, nes_et, es_pe, nes_pe, es_pp, nes_pp, es_pt, nes_pt, es_te, nes_te, es_tp, nes_tp, es_tt, nes_tt, o_last, la_l, dk0_int, dk0_str, nl_none, nl_int, nl_var, nl_bin, nl_neg, nl_idx, nl_bi, pt_t, pt_f, sl_l, sl_t, mul_li, b_isbl, view_d, Option.map_some, tyD, mtTy, view_o, tyD_dic ]
    rw [List.take_of_length_le (by omega)]
    rfl
end K71
end VI
set_option Elab.async false
set_option linter.all false
set_option autoImplicit false
set_option maxRecDepth 20000
namespace VI
namespace K71
open PySem AL
def Chain (bs : List Pl) (T : List (List Int)) : Prop := ∀ k a b, T[k]? = some a → T[k + 1]? = some b → b = step bs a ∧ mx a < mx b
theorem go_chain (bs : List Pl) : ∀ (n : Nat) (T : List (List Int)), T ≠ [] → Chain bs T → Chain bs (go bs n T)
  | 0, T, _, h => h
  | n + 1, T, hne, h => by
    unfold go
    split
    · rename_i hlt
      refine go_chain bs n _ (by simp) fun k a b ha hb => ?_
      by_cases hk : k + 1 < T.length
      · rw [List.getElem?_append_left (by omega)] at ha
        rw [List.getElem?_append_left hk] at hb
        exact h k a b ha hb
      · have hk2 : k + 1 = T.length := by
          have := (List.getElem?_eq_some_iff.mp hb).1
          simp at this
          omega
        rw [List.getElem?_append_right (by omega), hk2, Nat.sub_self] at hb
        rw [List.getElem?_append_left (by omega)] at ha
        have e : lst T = a := by
          unfold lst
          rw [List.getLast?_eq_getElem?, show T.length - 1 = k by omega, ha]
          rfl
        rw [e] at hb hlt
        have hb : step bs a = b := by simpa using hb
        rw [← hb]
        exact ⟨rfl, hlt⟩
    · exact h
theorem rnds_chain (bs : List Pl) : Chain bs (rnds bs) := go_chain bs _ _ (by simp) fun k a b ha hb => by
  simp at hb
theorem go_all {bs : List Pl} (P : List Int → Prop) (hs : ∀ c : List Int, c.length = bs.length → P c → P (step bs c)) : ∀ (n : Nat) (T : List (List Int)), T ≠ [] → (∀ t ∈ T, t.length = bs.length ∧ P t) → ∀ t ∈ go bs n T, t.length = bs.length ∧ P t
  | 0, T, _, h => h
  | n + 1, T, hne, h => by
    unfold go
    split
    · refine go_all P hs n _ (by simp) fun t ht => ?_
      rcases List.mem_append.mp ht with ht | ht
      · exact h t ht
      · rw [List.mem_singleton] at ht
        have hl : lst T ∈ T := by
          unfold lst
          cases e : T.getLast? with
          | none => simp at e; exact absurd e hne
          | some x => exact List.mem_of_getLast? e
        obtain ⟨h1, h2⟩ := h _ hl
        rw [ht]
        exact ⟨step_len h1, hs _ h1 h2⟩
    · exact h
theorem rnds_all (bs : List Pl) : ∀ t ∈ rnds bs, t.length = bs.length ∧ IsNum t ∧ Keyed bs t := by
  have := go_all (bs := bs) (fun t => IsNum t ∧ Keyed bs t) (fun c hc ⟨_, hk⟩ => ⟨⟨_, rfl⟩, fun i j p q hp hq e => hk i j p q hp hq ((step_iff hc hp hq).mp e).1⟩) (bs.length + 1) [num0 bs] (by simp) fun t ht => by
    rw [List.mem_singleton] at ht
    rw [ht]
    exact ⟨num0_len bs, ⟨_, rfl⟩, fun i j p q hp hq e => (num0_iff hp hq).mp e⟩
  exact this
theorem unl_len {ks : List NK} : (unlike (numb ks)).length = (met ks).length := by
  have m1 : ∀ x, x ∈ unlike (numb ks) ↔ ∃ k ∈ ks, x = (((met ks).idxOf k : Nat) : Int) := fun x => by
    rw [unl_mem, numb_eq]
    constructor
    · intro h
      obtain ⟨k, hk, rfl⟩ := List.mem_map.mp h
      exact ⟨k, hk, rfl⟩
    · rintro ⟨k, hk, rfl⟩
      exact List.mem_map.mpr ⟨k, hk, rfl⟩
  have nr : ((List.range (met ks).length).map fun i : Nat => (i : Int)).Nodup := by
    rw [List.nodup_iff_pairwise_ne, List.pairwise_map]
    exact List.nodup_range.imp fun h e => h (by omega)
  refine Nat.le_antisymm ?_ ?_
  · have := nodup_len (unlike (numb ks)) ((List.range (met ks).length).map fun i : Nat => (i : Int)) (unl_nodup _) fun x hx => by
      obtain ⟨k, hk, rfl⟩ := (m1 x).mp hx
      exact List.mem_map.mpr ⟨_, List.mem_range.mpr (List.idxOf_lt_length_of_mem ((met_mem ks k).mpr hk)), rfl⟩
    simpa using this
  · have := nodup_len ((List.range (met ks).length).map fun i : Nat => (i : Int)) (unlike (numb ks)) nr fun x hx => by
      obtain ⟨i, hi, rfl⟩ := List.mem_map.mp hx
      have hi := List.mem_range.mp hi
      refine (m1 _).mpr ⟨(met ks)[i], (met_mem ks _).mp (List.getElem_mem hi), ?_⟩
      rw [(met_nodup ks).idxOf_getElem]
    simpa using this
theorem more_iff {bs : List Pl} {t : List Int} (hn : IsNum t) (hne : t ≠ []) (hl : t.length = bs.length) : (unlike t).length < (unlike (step bs t)).length ↔ mx t < mx (step bs t) := by
  obtain ⟨ks, rfl⟩ := hn
  have hk : ks ≠ [] := fun e => by rw [e] at hne; exact hne rfl
  have hk2 : marks bs (numb ks) ≠ [] := fun e => by
    have := congrArg List.length e
    simp [marks, hl] at this
    rw [this] at hl
    exact hne (List.length_eq_zero_iff.mp hl)
  unfold AL.step
  rw [unl_len, unl_len, mx_met hk, mx_met hk2]
  omega
theorem law {Φ : Fns} {ns : List Int} (h13 : ∀ who : Int, (0 ≤ who ∧ who ≤ 1) → R0 (Φ 13 [iL ns, .int who]) fun x => ∃ bs : List Pl, x = bd bs ∧ (1 ≤ bs.length ∧ bs.length ≤ 24) ∧ OkO bs)
    (h14 : ∀ (p : Pl) (b : Int), p.goals.length ≤ most → R0 (Φ 14 [p.enc, .int b]) fun x => x = (Pl.shift b p).enc)
    (h17 : ∀ (bs : List Pl) (t : List Int), bs.length ≤ 100 → t.length = bs.length → (∀ p ∈ bs, OkP t.length p) → Keyed bs t → R0 (Φ 17 [bd bs, iL t]) fun x => x = iL (step bs t)) (X : Tbl tab8 Φ) : R0 (run Φ D18 [iL ns]) fun x => x = .bool true := by
  have mm : (100 : Nat) ≤ most := by decide
  refine w_run ?_
  simp only [startE, List.map_cons, List.map_nil, List.length_cons, List.length_nil, List.replicate, List.cons_append, List.nil_append, Nat.reduceAdd, Nat.reduceSub, w_ok, w_bind, w_ofO, o_some, o_map, o_bind, i_t, i_f, i_not, w_lit, w_glob, w_var, v_d, v_l, v_k, o_both, w_bin, w_neg, w_tru, w_not, w_and, w_or, w_cmp, w_chain, w_ife, w_call, w_bi, w_get2, w_mt, w_idx, w_slice, w_tuple, w_fr, ws_nil, ws_cons, wo_list, wo_listOf, wo_dict0, wo_dict1, wo_comp, wi_seq, wi_range1, wi_range2, wi_enum, wi_zip, wi_rev, wi_keys, w_lookf, w_lookt, w_frd, w_fro, f_l, f_k, w_fa0, w_fa1, o_view, o_viewd, o_views0, o_views1, uc_int, uc_bool, uc_str, uc_none, uc_list, uc_tuple, k_bk, k_ct, k_rt, w_nil, w_cons, w_set, w_own, w_unpack, w_par, w_put, w_append, w_insert, w_pop, w_popTo, w_onl, l_l, w_putE, p_l, p_k, w_expr, w_ret, w_retN, w_ite, w_wh, w_for, w_brk, w_cont, w_pass, a_ii, a_ss, a_ll, a_tt, s_ii, m_ii, d_ii, r_ii, t_none, t_bool, t_int, t_list, t_tuple, n_int, lt_ii, le_ii, gt_ii, ge_ii, eq_ii, ne_ii, eq_bb, ne_bb, is_bb, isn_bb, i_li, i_ti, sq_l, sq_t, sq_s, ll_l, as_l, as_t, ip_i, b_lenl, b_lent, b_lens, b_abs, b_inti, b_intb, b_tl, b_isb, b_isl, b_ist, b_isi, b_isbi, l_nx, l_ct, l_bk, l_rt, slot_l, slot_k, slot_d, Option.bind_some, Option.bind_none, List.getElem?_cons_zero, List.getElem?_cons_succ, List.set_cons_zero, List.set_cons_succ, at0, at1, at2, isLst, isOwn, true_and, and_true, Bool.not_true, Bool.not_false, decide_true, decide_false, o_ite, o_iteP, p64, p50, p40, p11, p11b, p12, p6, dk2, dk3, dk4, dk5, dk7, dk8, dk10, dk16, dk32, dk64, dk128, dk1024, dk2048, dk42, dk60, dk9, dk6, asg, setAll, wipeE, reduceIte, eq_self, ite_true, ite_false, b_sum, b_sum2, es_ee, nes_ee, es_ep, nes_ep, es_et, nes_et, es_pe, nes_pe, es_pp, nes_pp, es_pt, nes_pt, es_te, nes_te, es_tp, nes_tp, es_tt, nes_tt, o_last, la_l, dk0_int, dk0_str, nl_none, nl_int, nl_var, nl_bin, nl_neg, nl_idx, nl_bi, pt_t, pt_f, sl_l, sl_t, mul_li, b_isbl, view_d, Option.map_some, tyD, mtTy, view_o, tyD_dic]
  refine call0 (h13 _ (by omega)) rfl ?_
  rintro _ ⟨one, rfl, ⟨l1, m1⟩, o1⟩
  simp only [startE, List.map_cons, List.map_nil, List.length_cons, List.length_nil, List.replicate, List.cons_append, List.nil_append, Nat.reduceAdd, Nat.reduceSub, w_ok, w_bind, w_ofO, o_some, o_map, o_bind, i_t, i_f, i_not, w_lit, w_glob, w_var, v_d, v_l, v_k, o_both, w_bin, w_neg, w_tru, w_not, w_and, w_or, w_cmp, w_chain, w_ife, w_call, w_bi, w_get2, w_mt, w_idx, w_slice, w_tuple, w_fr, ws_nil, ws_cons, wo_list, wo_listOf, wo_dict0, wo_dict1, wo_comp, wi_seq, wi_range1, wi_range2, wi_enum, wi_zip, wi_rev, wi_keys, w_lookf, w_lookt, w_frd, w_fro, f_l, f_k, w_fa0, w_fa1, o_view, o_viewd, o_views0, o_views1, uc_int, uc_bool, uc_str, uc_none, uc_list, uc_tuple, k_bk, k_ct, k_rt, w_nil, w_cons, w_set, w_own, w_unpack, w_par, w_put, w_append, w_insert, w_pop, w_popTo, w_onl, l_l, w_putE, p_l, p_k, w_expr, w_ret, w_retN, w_ite, w_wh, w_for, w_brk, w_cont, w_pass, a_ii, a_ss, a_ll, a_tt, s_ii, m_ii, d_ii, r_ii, t_none, t_bool, t_int, t_list, t_tuple, n_int, lt_ii, le_ii, gt_ii, ge_ii, eq_ii, ne_ii, eq_bb, ne_bb, is_bb, isn_bb, i_li, i_ti, sq_l, sq_t, sq_s, ll_l, as_l, as_t, ip_i, b_lenl, b_lent, b_lens, b_abs, b_inti, b_intb, b_tl, b_isb, b_isl, b_ist, b_isi, b_isbi, l_nx, l_ct, l_bk, l_rt, slot_l, slot_k, slot_d, Option.bind_some, Option.bind_none, List.getElem?_cons_zero, List.getElem?_cons_succ, List.set_cons_zero, List.set_cons_succ, at0, at1, at2, isLst, isOwn, true_and, and_true, Bool.not_true, Bool.not_false, decide_true, decide_false, o_ite, o_iteP, p64, p50, p40, p11, p11b, p12, p6, dk2, dk3, dk4, dk5, dk7, dk8, dk10, dk16, dk32, dk64, dk128, dk1024, dk2048, dk42, dk60, dk9, dk6, asg, setAll, wipeE, reduceIte, eq_self, ite_true, ite_false, b_sum, b_sum2, es_ee, nes_ee, es_ep, nes_ep, es_et, nes_et, es_pe, nes_pe, es_pp, nes_pp, es_pt, nes_pt, es_te, nes_te, es_tp, nes_tp, es_tt, nes_tt, o_last, la_l, dk0_int, dk0_str, nl_none, nl_int, nl_var, nl_bin, nl_neg, nl_idx, nl_bi, pt_t, pt_f, sl_l, sl_t, mul_li, b_isbl, view_d, Option.map_some, tyD, mtTy, view_o, tyD_dic]
  rw [k_nx]
  simp only [startE, List.map_cons, List.map_nil, List.length_cons, List.length_nil, List.replicate, List.cons_append, List.nil_append, Nat.reduceAdd, Nat.reduceSub, w_ok, w_bind, w_ofO, o_some, o_map, o_bind, i_t, i_f, i_not, w_lit, w_glob, w_var, v_d, v_l, v_k, o_both, w_bin, w_neg, w_tru, w_not, w_and, w_or, w_cmp, w_chain, w_ife, w_call, w_bi, w_get2, w_mt, w_idx, w_slice, w_tuple, w_fr, ws_nil, ws_cons, wo_list, wo_listOf, wo_dict0, wo_dict1, wo_comp, wi_seq, wi_range1, wi_range2, wi_enum, wi_zip, wi_rev, wi_keys, w_lookf, w_lookt, w_frd, w_fro, f_l, f_k, w_fa0, w_fa1, o_view, o_viewd, o_views0, o_views1, uc_int, uc_bool, uc_str, uc_none, uc_list, uc_tuple, k_bk, k_ct, k_rt, w_nil, w_cons, w_set, w_own, w_unpack, w_par, w_put, w_append, w_insert, w_pop, w_popTo, w_onl, l_l, w_putE, p_l, p_k, w_expr, w_ret, w_retN, w_ite, w_wh, w_for, w_brk, w_cont, w_pass, a_ii, a_ss, a_ll, a_tt, s_ii, m_ii, d_ii, r_ii, t_none, t_bool, t_int, t_list, t_tuple, n_int, lt_ii, le_ii, gt_ii, ge_ii, eq_ii, ne_ii, eq_bb, ne_bb, is_bb, isn_bb, i_li, i_ti, sq_l, sq_t, sq_s, ll_l, as_l, as_t, ip_i, b_lenl, b_lent, b_lens, b_abs, b_inti, b_intb, b_tl, b_isb, b_isl, b_ist, b_isi, b_isbi, l_nx, l_ct, l_bk, l_rt, slot_l, slot_k, slot_d, Option.bind_some, Option.bind_none, List.getElem?_cons_zero, List.getElem?_cons_succ, List.set_cons_zero, List.set_cons_succ, at0, at1, at2, isLst, isOwn, true_and, and_true, Bool.not_true, Bool.not_false, decide_true, decide_false, o_ite, o_iteP, p64, p50, p40, p11, p11b, p12, p6, dk2, dk3, dk4, dk5, dk7, dk8, dk10, dk16, dk32, dk64, dk128, dk1024, dk2048, dk42, dk60, dk9, dk6, asg, setAll, wipeE, reduceIte, eq_self, ite_true, ite_false, b_sum, b_sum2, es_ee, nes_ee, es_ep, nes_ep, es_et, nes_et, es_pe, nes_pe, es_pp, nes_pp, es_pt, nes_pt, es_te, nes_te, es_tp, nes_tp, es_tt, nes_tt, o_last, la_l, dk0_int, dk0_str, nl_none, nl_int, nl_var, nl_bin, nl_neg, nl_idx, nl_bi, pt_t, pt_f, sl_l, sl_t, mul_li, b_isbl, view_d, Option.map_some, tyD, mtTy, view_o, tyD_dic]
  refine call0 (h13 _ (by omega)) rfl ?_
  rintro _ ⟨other, rfl, ⟨l2, m2⟩, o2⟩
  simp only [startE, List.map_cons, List.map_nil, List.length_cons, List.length_nil, List.replicate, List.cons_append, List.nil_append, Nat.reduceAdd, Nat.reduceSub, w_ok, w_bind, w_ofO, o_some, o_map, o_bind, i_t, i_f, i_not, w_lit, w_glob, w_var, v_d, v_l, v_k, o_both, w_bin, w_neg, w_tru, w_not, w_and, w_or, w_cmp, w_chain, w_ife, w_call, w_bi, w_get2, w_mt, w_idx, w_slice, w_tuple, w_fr, ws_nil, ws_cons, wo_list, wo_listOf, wo_dict0, wo_dict1, wo_comp, wi_seq, wi_range1, wi_range2, wi_enum, wi_zip, wi_rev, wi_keys, w_lookf, w_lookt, w_frd, w_fro, f_l, f_k, w_fa0, w_fa1, o_view, o_viewd, o_views0, o_views1, uc_int, uc_bool, uc_str, uc_none, uc_list, uc_tuple, k_bk, k_ct, k_rt, w_nil, w_cons, w_set, w_own, w_unpack, w_par, w_put, w_append, w_insert, w_pop, w_popTo, w_onl, l_l, w_putE, p_l, p_k, w_expr, w_ret, w_retN, w_ite, w_wh, w_for, w_brk, w_cont, w_pass, a_ii, a_ss, a_ll, a_tt, s_ii, m_ii, d_ii, r_ii, t_none, t_bool, t_int, t_list, t_tuple, n_int, lt_ii, le_ii, gt_ii, ge_ii, eq_ii, ne_ii, eq_bb, ne_bb, is_bb, isn_bb, i_li, i_ti, sq_l, sq_t, sq_s, ll_l, as_l, as_t, ip_i, b_lenl, b_lent, b_lens, b_abs, b_inti, b_intb, b_tl, b_isb, b_isl, b_ist, b_isi, b_isbi, l_nx, l_ct, l_bk, l_rt, slot_l, slot_k, slot_d, Option.bind_some, Option.bind_none, List.getElem?_cons_zero, List.getElem?_cons_succ, List.set_cons_zero, List.set_cons_succ, at0, at1, at2, isLst, isOwn, true_and, and_true, Bool.not_true, Bool.not_false, decide_true, decide_false, o_ite, o_iteP, p64, p50, p40, p11, p11b, p12, p6, dk2, dk3, dk4, dk5, dk7, dk8, dk10, dk16, dk32, dk64, dk128, dk1024, dk2048, dk42, dk60, dk9, dk6, asg, setAll, wipeE, reduceIte, eq_self, ite_true, ite_false, b_sum, b_sum2, es_ee, nes_ee, es_ep, nes_ep, es_et, nes_et, es_pe, nes_pe, es_pp, nes_pp, es_pt, nes_pt, es_te, nes_te, es_tp, nes_tp, es_tt, nes_tt, o_last, la_l, dk0_int, dk0_str, nl_none, nl_int, nl_var, nl_bin, nl_neg, nl_idx, nl_bi, pt_t, pt_f, sl_l, sl_t, mul_li, b_isbl, view_d, Option.map_some, tyD, mtTy, view_o, tyD_dic]
  rw [k_nx]
  simp only [startE, List.map_cons, List.map_nil, List.length_cons, List.length_nil, List.replicate, List.cons_append, List.nil_append, Nat.reduceAdd, Nat.reduceSub, w_ok, w_bind, w_ofO, o_some, o_map, o_bind, i_t, i_f, i_not, w_lit, w_glob, w_var, v_d, v_l, v_k, o_both, w_bin, w_neg, w_tru, w_not, w_and, w_or, w_cmp, w_chain, w_ife, w_call, w_bi, w_get2, w_mt, w_idx, w_slice, w_tuple, w_fr, ws_nil, ws_cons, wo_list, wo_listOf, wo_dict0, wo_dict1, wo_comp, wi_seq, wi_range1, wi_range2, wi_enum, wi_zip, wi_rev, wi_keys, w_lookf, w_lookt, w_frd, w_fro, f_l, f_k, w_fa0, w_fa1, o_view, o_viewd, o_views0, o_views1, uc_int, uc_bool, uc_str, uc_none, uc_list, uc_tuple, k_bk, k_ct, k_rt, w_nil, w_cons, w_set, w_own, w_unpack, w_par, w_put, w_append, w_insert, w_pop, w_popTo, w_onl, l_l, w_putE, p_l, p_k, w_expr, w_ret, w_retN, w_ite, w_wh, w_for, w_brk, w_cont, w_pass, a_ii, a_ss, a_ll, a_tt, s_ii, m_ii, d_ii, r_ii, t_none, t_bool, t_int, t_list, t_tuple, n_int, lt_ii, le_ii, gt_ii, ge_ii, eq_ii, ne_ii, eq_bb, ne_bb, is_bb, isn_bb, i_li, i_ti, sq_l, sq_t, sq_s, ll_l, as_l, as_t, ip_i, b_lenl, b_lent, b_lens, b_abs, b_inti, b_intb, b_tl, b_isb, b_isl, b_ist, b_isi, b_isbi, l_nx, l_ct, l_bk, l_rt, slot_l, slot_k, slot_d, Option.bind_some, Option.bind_none, List.getElem?_cons_zero, List.getElem?_cons_succ, List.set_cons_zero, List.set_cons_succ, at0, at1, at2, isLst, isOwn, true_and, and_true, Bool.not_true, Bool.not_false, decide_true, decide_false, o_ite, o_iteP, p64, p50, p40, p11, p11b, p12, p6, dk2, dk3, dk4, dk5, dk7, dk8, dk10, dk16, dk32, dk64, dk128, dk1024, dk2048, dk42, dk60, dk9, dk6, asg, setAll, wipeE, reduceIte, eq_self, ite_true, ite_false, b_sum, b_sum2, es_ee, nes_ee, es_ep, nes_ep, es_et, nes_et, es_pe, nes_pe, es_pp, nes_pp, es_pt, nes_pt, es_te, nes_te, es_tp, nes_tp, es_tt, nes_tt, o_last, la_l, dk0_int, dk0_str, nl_none, nl_int, nl_var, nl_bin, nl_neg, nl_idx, nl_bi, pt_t, pt_f, sl_l, sl_t, mul_li, b_isbl, view_d, Option.map_some, tyD, mtTy, view_o, tyD_dic]
  refine call_ok (spec8 X o1 o2 (by omega) (fun e => by rw [e] at l1; simp at l1)) rfl ?_
  obtain ⟨bs, hbs⟩ : ∃ bs, both2 one other = bs := ⟨_, rfl⟩
  have okb := okb_both o1 o2 (by omega)
  rw [hbs] at okb ⊢
  have bl : bs.length = one.length + other.length := by rw [← hbs]; simp [both2]
  obtain ⟨rne, _⟩ := rnds_ne bs
  have all := rnds_all bs
  have ch := rnds_chain bs
  simp only [startE, List.map_cons, List.map_nil, List.length_cons, List.length_nil, List.replicate, List.cons_append, List.nil_append, Nat.reduceAdd, Nat.reduceSub, w_ok, w_bind, w_ofO, o_some, o_map, o_bind, i_t, i_f, i_not, w_lit, w_glob, w_var, v_d, v_l, v_k, o_both, w_bin, w_neg, w_tru, w_not, w_and, w_or, w_cmp, w_chain, w_ife, w_call, w_bi, w_get2, w_mt, w_idx, w_slice, w_tuple, w_fr, ws_nil, ws_cons, wo_list, wo_listOf, wo_dict0, wo_dict1, wo_comp, wi_seq, wi_range1, wi_range2, wi_enum, wi_zip, wi_rev, wi_keys, w_lookf, w_lookt, w_frd, w_fro, f_l, f_k, w_fa0, w_fa1, o_view, o_viewd, o_views0, o_views1, uc_int, uc_bool, uc_str, uc_none, uc_list, uc_tuple, k_bk, k_ct, k_rt, w_nil, w_cons, w_set, w_own, w_unpack, w_par, w_put, w_append, w_insert, w_pop, w_popTo, w_onl, l_l, w_putE, p_l, p_k, w_expr, w_ret, w_retN, w_ite, w_wh, w_for, w_brk, w_cont, w_pass, a_ii, a_ss, a_ll, a_tt, s_ii, m_ii, d_ii, r_ii, t_none, t_bool, t_int, t_list, t_tuple, n_int, lt_ii, le_ii, gt_ii, ge_ii, eq_ii, ne_ii, eq_bb, ne_bb, is_bb, isn_bb, i_li, i_ti, sq_l, sq_t, sq_s, ll_l, as_l, as_t, ip_i, b_lenl, b_lent, b_lens, b_abs, b_inti, b_intb, b_tl, b_isb, b_isl, b_ist, b_isi, b_isbi, l_nx, l_ct, l_bk, l_rt, slot_l, slot_k, slot_d, Option.bind_some, Option.bind_none, List.getElem?_cons_zero, List.getElem?_cons_succ, List.set_cons_zero, List.set_cons_succ, at0, at1, at2, isLst, isOwn, true_and, and_true, Bool.not_true, Bool.not_false, decide_true, decide_false, o_ite, o_iteP, p64, p50, p40, p11, p11b, p12, p6, dk2, dk3, dk4, dk5, dk7, dk8, dk10, dk16, dk32, dk64, dk128, dk1024, dk2048, dk42, dk60, dk9, dk6, asg, setAll, wipeE, reduceIte, eq_self, ite_true, ite_false, b_sum, b_sum2, es_ee, nes_ee, es_ep, nes_ep, es_et, nes_et, es_pe, nes_pe, es_pp, nes_pp, es_pt, nes_pt, es_te, nes_te, es_tp, nes_tp, es_tt, nes_tt, o_last, la_l, dk0_int, dk0_str, nl_none, nl_int, nl_var, nl_bin, nl_neg, nl_idx, nl_bi, pt_t, pt_f, sl_l, sl_t, mul_li, b_isbl, view_d, Option.map_some, tyD, mtTy, view_o, tyD_dic, List.length_map]
  rw [k_nx]
  simp only [startE, List.map_cons, List.map_nil, List.length_cons, List.length_nil, List.replicate, List.cons_append, List.nil_append, Nat.reduceAdd, Nat.reduceSub, w_ok, w_bind, w_ofO, o_some, o_map, o_bind, i_t, i_f, i_not, w_lit, w_glob, w_var, v_d, v_l, v_k, o_both, w_bin, w_neg, w_tru, w_not, w_and, w_or, w_cmp, w_chain, w_ife, w_call, w_bi, w_get2, w_mt, w_idx, w_slice, w_tuple, w_fr, ws_nil, ws_cons, wo_list, wo_listOf, wo_dict0, wo_dict1, wo_comp, wi_seq, wi_range1, wi_range2, wi_enum, wi_zip, wi_rev, wi_keys, w_lookf, w_lookt, w_frd, w_fro, f_l, f_k, w_fa0, w_fa1, o_view, o_viewd, o_views0, o_views1, uc_int, uc_bool, uc_str, uc_none, uc_list, uc_tuple, k_bk, k_ct, k_rt, w_nil, w_cons, w_set, w_own, w_unpack, w_par, w_put, w_append, w_insert, w_pop, w_popTo, w_onl, l_l, w_putE, p_l, p_k, w_expr, w_ret, w_retN, w_ite, w_wh, w_for, w_brk, w_cont, w_pass, a_ii, a_ss, a_ll, a_tt, s_ii, m_ii, d_ii, r_ii, t_none, t_bool, t_int, t_list, t_tuple, n_int, lt_ii, le_ii, gt_ii, ge_ii, eq_ii, ne_ii, eq_bb, ne_bb, is_bb, isn_bb, i_li, i_ti, sq_l, sq_t, sq_s, ll_l, as_l, as_t, ip_i, b_lenl, b_lent, b_lens, b_abs, b_inti, b_intb, b_tl, b_isb, b_isl, b_ist, b_isi, b_isbi, l_nx, l_ct, l_bk, l_rt, slot_l, slot_k, slot_d, Option.bind_some, Option.bind_none, List.getElem?_cons_zero, List.getElem?_cons_succ, List.set_cons_zero, List.set_cons_succ, at0, at1, at2, isLst, isOwn, true_and, and_true, Bool.not_true, Bool.not_false, decide_true, decide_false, o_ite, o_iteP, p64, p50, p40, p11, p11b, p12, p6, dk2, dk3, dk4, dk5, dk7, dk8, dk10, dk16, dk32, dk64, dk128, dk1024, dk2048, dk42, dk60, dk9, dk6, asg, setAll, wipeE, reduceIte, eq_self, ite_true, ite_false, b_sum, b_sum2, es_ee, nes_ee, es_ep, nes_ep, es_et, nes_et, es_pe, nes_pe, es_pp, nes_pp, es_pt, nes_pt, es_te, nes_te, es_tp, nes_tp, es_tt, nes_tt, o_last, la_l, dk0_int, dk0_str, nl_none, nl_int, nl_var, nl_bin, nl_neg, nl_idx, nl_bi, pt_t, pt_f, sl_l, sl_t, mul_li, b_isbl, view_d, Option.map_some, tyD, mtTy, view_o, tyD_dic, List.length_map]
  have rl : 0 < (rnds bs).length := List.length_pos_iff.mpr rne
  refine WI_f (by omega) ?_
  try rw [k_nx]
  simp only [startE, List.map_cons, List.map_nil, List.length_cons, List.length_nil, List.replicate, List.cons_append, List.nil_append, Nat.reduceAdd, Nat.reduceSub, w_ok, w_bind, w_ofO, o_some, o_map, o_bind, i_t, i_f, i_not, w_lit, w_glob, w_var, v_d, v_l, v_k, o_both, w_bin, w_neg, w_tru, w_not, w_and, w_or, w_cmp, w_chain, w_ife, w_call, w_bi, w_get2, w_mt, w_idx, w_slice, w_tuple, w_fr, ws_nil, ws_cons, wo_list, wo_listOf, wo_dict0, wo_dict1, wo_comp, wi_seq, wi_range1, wi_range2, wi_enum, wi_zip, wi_rev, wi_keys, w_lookf, w_lookt, w_frd, w_fro, f_l, f_k, w_fa0, w_fa1, o_view, o_viewd, o_views0, o_views1, uc_int, uc_bool, uc_str, uc_none, uc_list, uc_tuple, k_bk, k_ct, k_rt, w_nil, w_cons, w_set, w_own, w_unpack, w_par, w_put, w_append, w_insert, w_pop, w_popTo, w_onl, l_l, w_putE, p_l, p_k, w_expr, w_ret, w_retN, w_ite, w_wh, w_for, w_brk, w_cont, w_pass, a_ii, a_ss, a_ll, a_tt, s_ii, m_ii, d_ii, r_ii, t_none, t_bool, t_int, t_list, t_tuple, n_int, lt_ii, le_ii, gt_ii, ge_ii, eq_ii, ne_ii, eq_bb, ne_bb, is_bb, isn_bb, i_li, i_ti, sq_l, sq_t, sq_s, ll_l, as_l, as_t, ip_i, b_lenl, b_lent, b_lens, b_abs, b_inti, b_intb, b_tl, b_isb, b_isl, b_ist, b_isi, b_isbi, l_nx, l_ct, l_bk, l_rt, slot_l, slot_k, slot_d, Option.bind_some, Option.bind_none, List.getElem?_cons_zero, List.getElem?_cons_succ, List.set_cons_zero, List.set_cons_succ, at0, at1, at2, isLst, isOwn, true_and, and_true, Bool.not_true, Bool.not_false, decide_true, decide_false, o_ite, o_iteP, p64, p50, p40, p11, p11b, p12, p6, dk2, dk3, dk4, dk5, dk7, dk8, dk10, dk16, dk32, dk64, dk128, dk1024, dk2048, dk42, dk60, dk9, dk6, asg, setAll, wipeE, reduceIte, eq_self, ite_true, ite_false, b_sum, b_sum2, es_ee, nes_ee, es_ep, nes_ep, es_et, nes_et, es_pe, nes_pe, es_pp, nes_pp, es_pt, nes_pt, es_te, nes_te, es_tp, nes_tp, es_tt, nes_tt, o_last, la_l, dk0_int, dk0_str, nl_none, nl_int, nl_var, nl_bin, nl_neg, nl_idx, nl_bi, pt_t, pt_f, sl_l, sl_t, mul_li, b_isbl, view_d, Option.map_some, tyD, mtTy, view_o, tyD_dic, List.length_map]
  refine w_cw1 other Pl.enc (fun p z => z = (Pl.shift one.length p).enc) rfl rfl (by omega) (fun p hp => ?_) fun zs hz => ?_
  · simp only [startE, List.map_cons, List.map_nil, List.length_cons, List.length_nil, List.replicate, List.cons_append, List.nil_append, Nat.reduceAdd, Nat.reduceSub, w_ok, w_bind, w_ofO, o_some, o_map, o_bind, i_t, i_f, i_not, w_lit, w_glob, w_var, v_d, v_l, v_k, o_both, w_bin, w_neg, w_tru, w_not, w_and, w_or, w_cmp, w_chain, w_ife, w_call, w_bi, w_get2, w_mt, w_idx, w_slice, w_tuple, w_fr, ws_nil, ws_cons, wo_list, wo_listOf, wo_dict0, wo_dict1, wo_comp, wi_seq, wi_range1, wi_range2, wi_enum, wi_zip, wi_rev, wi_keys, w_lookf, w_lookt, w_frd, w_fro, f_l, f_k, w_fa0, w_fa1, o_view, o_viewd, o_views0, o_views1, uc_int, uc_bool, uc_str, uc_none, uc_list, uc_tuple, k_bk, k_ct, k_rt, w_nil, w_cons, w_set, w_own, w_unpack, w_par, w_put, w_append, w_insert, w_pop, w_popTo, w_onl, l_l, w_putE, p_l, p_k, w_expr, w_ret, w_retN, w_ite, w_wh, w_for, w_brk, w_cont, w_pass, a_ii, a_ss, a_ll, a_tt, s_ii, m_ii, d_ii, r_ii, t_none, t_bool, t_int, t_list, t_tuple, n_int, lt_ii, le_ii, gt_ii, ge_ii, eq_ii, ne_ii, eq_bb, ne_bb, is_bb, isn_bb, i_li, i_ti, sq_l, sq_t, sq_s, ll_l, as_l, as_t, ip_i, b_lenl, b_lent, b_lens, b_abs, b_inti, b_intb, b_tl, b_isb, b_isl, b_ist, b_isi, b_isbi, l_nx, l_ct, l_bk, l_rt, slot_l, slot_k, slot_d, Option.bind_some, Option.bind_none, List.getElem?_cons_zero, List.getElem?_cons_succ, List.set_cons_zero, List.set_cons_succ, at0, at1, at2, isLst, isOwn, true_and, and_true, Bool.not_true, Bool.not_false, decide_true, decide_false, o_ite, o_iteP, p64, p50, p40, p11, p11b, p12, p6, dk2, dk3, dk4, dk5, dk7, dk8, dk10, dk16, dk32, dk64, dk128, dk1024, dk2048, dk42, dk60, dk9, dk6, asg, setAll, wipeE, reduceIte, eq_self, ite_true, ite_false, b_sum, b_sum2, es_ee, nes_ee, es_ep, nes_ep, es_et, nes_et, es_pe, nes_pe, es_pp, nes_pp, es_pt, nes_pt, es_te, nes_te, es_tp, nes_tp, es_tt, nes_tt, o_last, la_l, dk0_int, dk0_str, nl_none, nl_int, nl_var, nl_bin, nl_neg, nl_idx, nl_bi, pt_t, pt_f, sl_l, sl_t, mul_li, b_isbl, view_d, Option.map_some, tyD, mtTy, view_o, tyD_dic, List.length_map]
    refine call0 (h14 p _ (ok_goals (o2 p hp))) rfl ?_
    rintro _ rfl
    simp only [startE, List.map_cons, List.map_nil, List.length_cons, List.length_nil, List.replicate, List.cons_append, List.nil_append, Nat.reduceAdd, Nat.reduceSub, w_ok, w_bind, w_ofO, o_some, o_map, o_bind, i_t, i_f, i_not, w_lit, w_glob, w_var, v_d, v_l, v_k, o_both, w_bin, w_neg, w_tru, w_not, w_and, w_or, w_cmp, w_chain, w_ife, w_call, w_bi, w_get2, w_mt, w_idx, w_slice, w_tuple, w_fr, ws_nil, ws_cons, wo_list, wo_listOf, wo_dict0, wo_dict1, wo_comp, wi_seq, wi_range1, wi_range2, wi_enum, wi_zip, wi_rev, wi_keys, w_lookf, w_lookt, w_frd, w_fro, f_l, f_k, w_fa0, w_fa1, o_view, o_viewd, o_views0, o_views1, uc_int, uc_bool, uc_str, uc_none, uc_list, uc_tuple, k_bk, k_ct, k_rt, w_nil, w_cons, w_set, w_own, w_unpack, w_par, w_put, w_append, w_insert, w_pop, w_popTo, w_onl, l_l, w_putE, p_l, p_k, w_expr, w_ret, w_retN, w_ite, w_wh, w_for, w_brk, w_cont, w_pass, a_ii, a_ss, a_ll, a_tt, s_ii, m_ii, d_ii, r_ii, t_none, t_bool, t_int, t_list, t_tuple, n_int, lt_ii, le_ii, gt_ii, ge_ii, eq_ii, ne_ii, eq_bb, ne_bb, is_bb, isn_bb, i_li, i_ti, sq_l, sq_t, sq_s, ll_l, as_l, as_t, ip_i, b_lenl, b_lent, b_lens, b_abs, b_inti, b_intb, b_tl, b_isb, b_isl, b_ist, b_isi, b_isbi, l_nx, l_ct, l_bk, l_rt, slot_l, slot_k, slot_d, Option.bind_some, Option.bind_none, List.getElem?_cons_zero, List.getElem?_cons_succ, List.set_cons_zero, List.set_cons_succ, at0, at1, at2, isLst, isOwn, true_and, and_true, Bool.not_true, Bool.not_false, decide_true, decide_false, o_ite, o_iteP, p64, p50, p40, p11, p11b, p12, p6, dk2, dk3, dk4, dk5, dk7, dk8, dk10, dk16, dk32, dk64, dk128, dk1024, dk2048, dk42, dk60, dk9, dk6, asg, setAll, wipeE, reduceIte, eq_self, ite_true, ite_false, b_sum, b_sum2, es_ee, nes_ee, es_ep, nes_ep, es_et, nes_et, es_pe, nes_pe, es_pp, nes_pp, es_pt, nes_pt, es_te, nes_te, es_tp, nes_tp, es_tt, nes_tt, o_last, la_l, dk0_int, dk0_str, nl_none, nl_int, nl_var, nl_bin, nl_neg, nl_idx, nl_bi, pt_t, pt_f, sl_l, sl_t, mul_li, b_isbl, view_d, Option.map_some, tyD, mtTy, view_o, tyD_dic]
  rw [hz.map_eq]
  have eb : one.map Pl.enc ++ other.map (fun p => (Pl.shift one.length p).enc) = bs.map Pl.enc := by
    rw [← hbs]
    simp [both2, Function.comp_def]
  simp only [startE, List.map_cons, List.map_nil, List.length_cons, List.length_nil, List.replicate, List.cons_append, List.nil_append, Nat.reduceAdd, Nat.reduceSub, w_ok, w_bind, w_ofO, o_some, o_map, o_bind, i_t, i_f, i_not, w_lit, w_glob, w_var, v_d, v_l, v_k, o_both, w_bin, w_neg, w_tru, w_not, w_and, w_or, w_cmp, w_chain, w_ife, w_call, w_bi, w_get2, w_mt, w_idx, w_slice, w_tuple, w_fr, ws_nil, ws_cons, wo_list, wo_listOf, wo_dict0, wo_dict1, wo_comp, wi_seq, wi_range1, wi_range2, wi_enum, wi_zip, wi_rev, wi_keys, w_lookf, w_lookt, w_frd, w_fro, f_l, f_k, w_fa0, w_fa1, o_view, o_viewd, o_views0, o_views1, uc_int, uc_bool, uc_str, uc_none, uc_list, uc_tuple, k_bk, k_ct, k_rt, w_nil, w_cons, w_set, w_own, w_unpack, w_par, w_put, w_append, w_insert, w_pop, w_popTo, w_onl, l_l, w_putE, p_l, p_k, w_expr, w_ret, w_retN, w_ite, w_wh, w_for, w_brk, w_cont, w_pass, a_ii, a_ss, a_ll, a_tt, s_ii, m_ii, d_ii, r_ii, t_none, t_bool, t_int, t_list, t_tuple, n_int, lt_ii, le_ii, gt_ii, ge_ii, eq_ii, ne_ii, eq_bb, ne_bb, is_bb, isn_bb, i_li, i_ti, sq_l, sq_t, sq_s, ll_l, as_l, as_t, ip_i, b_lenl, b_lent, b_lens, b_abs, b_inti, b_intb, b_tl, b_isb, b_isl, b_ist, b_isi, b_isbi, l_nx, l_ct, l_bk, l_rt, slot_l, slot_k, slot_d, Option.bind_some, Option.bind_none, List.getElem?_cons_zero, List.getElem?_cons_succ, List.set_cons_zero, List.set_cons_succ, at0, at1, at2, isLst, isOwn, true_and, and_true, Bool.not_true, Bool.not_false, decide_true, decide_false, o_ite, o_iteP, p64, p50, p40, p11, p11b, p12, p6, dk2, dk3, dk4, dk5, dk7, dk8, dk10, dk16, dk32, dk64, dk128, dk1024, dk2048, dk42, dk60, dk9, dk6, asg, setAll, wipeE, reduceIte, eq_self, ite_true, ite_false, b_sum, b_sum2, es_ee, nes_ee, es_ep, nes_ep, es_et, nes_et, es_pe, nes_pe, es_pp, nes_pp, es_pt, nes_pt, es_te, nes_te, es_tp, nes_tp, es_tt, nes_tt, o_last, la_l, dk0_int, dk0_str, nl_none, nl_int, nl_var, nl_bin, nl_neg, nl_idx, nl_bi, pt_t, pt_f, sl_l, sl_t, mul_li, b_isbl, view_d, Option.map_some, tyD, mtTy, view_o, tyD_dic, eb]
  refine ⟨small_of (by simp; omega), ?_⟩
  rw [k_nx]
  simp only [startE, List.map_cons, List.map_nil, List.length_cons, List.length_nil, List.replicate, List.cons_append, List.nil_append, Nat.reduceAdd, Nat.reduceSub, w_ok, w_bind, w_ofO, o_some, o_map, o_bind, i_t, i_f, i_not, w_lit, w_glob, w_var, v_d, v_l, v_k, o_both, w_bin, w_neg, w_tru, w_not, w_and, w_or, w_cmp, w_chain, w_ife, w_call, w_bi, w_get2, w_mt, w_idx, w_slice, w_tuple, w_fr, ws_nil, ws_cons, wo_list, wo_listOf, wo_dict0, wo_dict1, wo_comp, wi_seq, wi_range1, wi_range2, wi_enum, wi_zip, wi_rev, wi_keys, w_lookf, w_lookt, w_frd, w_fro, f_l, f_k, w_fa0, w_fa1, o_view, o_viewd, o_views0, o_views1, uc_int, uc_bool, uc_str, uc_none, uc_list, uc_tuple, k_bk, k_ct, k_rt, w_nil, w_cons, w_set, w_own, w_unpack, w_par, w_put, w_append, w_insert, w_pop, w_popTo, w_onl, l_l, w_putE, p_l, p_k, w_expr, w_ret, w_retN, w_ite, w_wh, w_for, w_brk, w_cont, w_pass, a_ii, a_ss, a_ll, a_tt, s_ii, m_ii, d_ii, r_ii, t_none, t_bool, t_int, t_list, t_tuple, n_int, lt_ii, le_ii, gt_ii, ge_ii, eq_ii, ne_ii, eq_bb, ne_bb, is_bb, isn_bb, i_li, i_ti, sq_l, sq_t, sq_s, ll_l, as_l, as_t, ip_i, b_lenl, b_lent, b_lens, b_abs, b_inti, b_intb, b_tl, b_isb, b_isl, b_ist, b_isi, b_isbi, l_nx, l_ct, l_bk, l_rt, slot_l, slot_k, slot_d, Option.bind_some, Option.bind_none, List.getElem?_cons_zero, List.getElem?_cons_succ, List.set_cons_zero, List.set_cons_succ, at0, at1, at2, isLst, isOwn, true_and, and_true, Bool.not_true, Bool.not_false, decide_true, decide_false, o_ite, o_iteP, p64, p50, p40, p11, p11b, p12, p6, dk2, dk3, dk4, dk5, dk7, dk8, dk10, dk16, dk32, dk64, dk128, dk1024, dk2048, dk42, dk60, dk9, dk6, asg, setAll, wipeE, reduceIte, eq_self, ite_true, ite_false, b_sum, b_sum2, es_ee, nes_ee, es_ep, nes_ep, es_et, nes_et, es_pe, nes_pe, es_pp, nes_pp, es_pt, nes_pt, es_te, nes_te, es_tp, nes_tp, es_tt, nes_tt, o_last, la_l, dk0_int, dk0_str, nl_none, nl_int, nl_var, nl_bin, nl_neg, nl_idx, nl_bi, pt_t, pt_f, sl_l, sl_t, mul_li, b_isbl, view_d, Option.map_some, tyD, mtTy, view_o, tyD_dic]
  refine w_each (rnds bs) iL (fun k ρ => ∃ a, ρ = [.d (iL ns), .d (bd one), .d (bd other), .d (.list ((rnds bs).map iL)), .d (bd bs), a, .unb, .unb, .unb, .unb]) ⟨_, rfl⟩ ?_ ?_
  · rintro k t ρ ht ⟨a, rfl⟩
    have tl := (all t (List.mem_of_getElem? ht)).1
    simp only [startE, List.map_cons, List.map_nil, List.length_cons, List.length_nil, List.replicate, List.cons_append, List.nil_append, Nat.reduceAdd, Nat.reduceSub, w_ok, w_bind, w_ofO, o_some, o_map, o_bind, i_t, i_f, i_not, w_lit, w_glob, w_var, v_d, v_l, v_k, o_both, w_bin, w_neg, w_tru, w_not, w_and, w_or, w_cmp, w_chain, w_ife, w_call, w_bi, w_get2, w_mt, w_idx, w_slice, w_tuple, w_fr, ws_nil, ws_cons, wo_list, wo_listOf, wo_dict0, wo_dict1, wo_comp, wi_seq, wi_range1, wi_range2, wi_enum, wi_zip, wi_rev, wi_keys, w_lookf, w_lookt, w_frd, w_fro, f_l, f_k, w_fa0, w_fa1, o_view, o_viewd, o_views0, o_views1, uc_int, uc_bool, uc_str, uc_none, uc_list, uc_tuple, k_bk, k_ct, k_rt, w_nil, w_cons, w_set, w_own, w_unpack, w_par, w_put, w_append, w_insert, w_pop, w_popTo, w_onl, l_l, w_putE, p_l, p_k, w_expr, w_ret, w_retN, w_ite, w_wh, w_for, w_brk, w_cont, w_pass, a_ii, a_ss, a_ll, a_tt, s_ii, m_ii, d_ii, r_ii, t_none, t_bool, t_int, t_list, t_tuple, n_int, lt_ii, le_ii, gt_ii, ge_ii, eq_ii, ne_ii, eq_bb, ne_bb, is_bb, isn_bb, i_li, i_ti, sq_l, sq_t, sq_s, ll_l, as_l, as_t, ip_i, b_lenl, b_lent, b_lens, b_abs, b_inti, b_intb, b_tl, b_isb, b_isl, b_ist, b_isi, b_isbi, l_nx, l_ct, l_bk, l_rt, slot_l, slot_k, slot_d, Option.bind_some, Option.bind_none, List.getElem?_cons_zero, List.getElem?_cons_succ, List.set_cons_zero, List.set_cons_succ, at0, at1, at2, isLst, isOwn, true_and, and_true, Bool.not_true, Bool.not_false, decide_true, decide_false, o_ite, o_iteP, p64, p50, p40, p11, p11b, p12, p6, dk2, dk3, dk4, dk5, dk7, dk8, dk10, dk16, dk32, dk64, dk128, dk1024, dk2048, dk42, dk60, dk9, dk6, asg, setAll, wipeE, reduceIte, eq_self, ite_true, ite_false, b_sum, b_sum2, es_ee, nes_ee, es_ep, nes_ep, es_et, nes_et, es_pe, nes_pe, es_pp, nes_pp, es_pt, nes_pt, es_te, nes_te, es_tp, nes_tp, es_tt, nes_tt, o_last, la_l, dk0_int, dk0_str, nl_none, nl_int, nl_var, nl_bin, nl_neg, nl_idx, nl_bi, pt_t, pt_f, sl_l, sl_t, mul_li, b_isbl, view_d, Option.map_some, tyD, mtTy, view_o, tyD_dic, List.length_map]
    rw [tl]
    simp only [startE, List.map_cons, List.map_nil, List.length_cons, List.length_nil, List.replicate, List.cons_append, List.nil_append, Nat.reduceAdd, Nat.reduceSub, w_ok, w_bind, w_ofO, o_some, o_map, o_bind, i_t, i_f, i_d, i_not, w_lit, w_glob, w_var, v_d, v_l, v_k, o_both, w_bin, w_neg, w_tru, w_not, w_and, w_or, w_cmp, w_chain, w_ife, w_call, w_bi, w_get2, w_mt, w_idx, w_slice, w_tuple, w_fr, ws_nil, ws_cons, wo_list, wo_listOf, wo_dict0, wo_dict1, wo_comp, wi_seq, wi_range1, wi_range2, wi_enum, wi_zip, wi_rev, wi_keys, w_lookf, w_lookt, w_frd, w_fro, f_l, f_k, w_fa0, w_fa1, o_view, o_viewd, o_views0, o_views1, uc_int, uc_bool, uc_str, uc_none, uc_list, uc_tuple, k_nx, k_bk, k_ct, k_rt, w_nil, w_cons, w_set, w_own, w_unpack, w_par, w_put, w_append, w_insert, w_pop, w_popTo, w_onl, l_l, w_putE, p_l, p_k, w_expr, w_ret, w_retN, w_ite, w_wh, w_for, w_brk, w_cont, w_pass, a_ii, a_ss, a_ll, a_tt, s_ii, m_ii, d_ii, r_ii, t_none, t_bool, t_int, t_list, t_tuple, n_int, lt_ii, le_ii, gt_ii, ge_ii, eq_ii, ne_ii, eq_bb, ne_bb, is_bb, isn_bb, i_li, i_ti, sq_l, sq_t, sq_s, ll_l, as_l, as_t, ip_i, b_lenl, b_lent, b_lens, b_abs, b_inti, b_intb, b_tl, b_isb, b_isl, b_ist, b_isi, b_isbi, l_nx, l_ct, l_bk, l_rt, slot_l, slot_k, slot_d, Option.bind_some, Option.bind_none, List.getElem?_cons_zero, List.getElem?_cons_succ, List.set_cons_zero, List.set_cons_succ, at0, at1, at2, isLst, isOwn, true_and, and_true, Bool.not_true, Bool.not_false, decide_true, decide_false, o_ite, o_iteP, p64, p50, p40, p11, p11b, p12, p6, dk2, dk3, dk4, dk5, dk7, dk8, dk10, dk16, dk32, dk64, dk128, dk1024, dk2048, dk42, dk60, dk9, dk6, asg, setAll, wipeE, reduceIte, eq_self, ite_true, ite_false, b_sum, b_sum2, es_ee, nes_ee, es_ep, nes_ep, es_et, nes_et, es_pe, nes_pe, es_pp, nes_pp, es_pt, nes_pt, es_te, nes_te, es_tp, nes_tp, es_tt, nes_tt, o_last, la_l, dk0_int, dk0_str, nl_none, nl_int, nl_var, nl_bin, nl_neg, nl_idx, nl_bi, pt_t, pt_f, sl_l, sl_t, mul_li, b_isbl, view_d, Option.map_some, tyD, mtTy, view_o, tyD_dic ]
    exact ⟨_, rfl⟩
  · rintro ρ ⟨a, rfl⟩
    rw [k_nx]
    have rb : (rnds bs).length ≤ bs.length + 2 := by
      have : ∀ (n : Nat) (T : List (List Int)), (go bs n T).length ≤ T.length + n := fun n => by
        induction n with
        | zero => intro T; simp [go]
        | succ n ih =>
          intro T
          unfold go
          split
          · have := ih (T ++ [AL.step bs (lst T)])
            simp at this
            omega
          · omega
      have := this (bs.length + 1) [num0 bs]
      simp at this
      unfold rnds
      omega
    simp only [startE, List.map_cons, List.map_nil, List.length_cons, List.length_nil, List.replicate, List.cons_append, List.nil_append, Nat.reduceAdd, Nat.reduceSub, w_ok, w_bind, w_ofO, o_some, o_map, o_bind, i_t, i_f, i_not, w_lit, w_glob, w_var, v_d, v_l, v_k, o_both, w_bin, w_neg, w_tru, w_not, w_and, w_or, w_cmp, w_chain, w_ife, w_call, w_bi, w_get2, w_mt, w_idx, w_slice, w_tuple, w_fr, ws_nil, ws_cons, wo_list, wo_listOf, wo_dict0, wo_dict1, wo_comp, wi_seq, wi_range1, wi_range2, wi_enum, wi_zip, wi_rev, wi_keys, w_lookf, w_lookt, w_frd, w_fro, f_l, f_k, w_fa0, w_fa1, o_view, o_viewd, o_views0, o_views1, uc_int, uc_bool, uc_str, uc_none, uc_list, uc_tuple, k_bk, k_ct, k_rt, w_nil, w_cons, w_set, w_own, w_unpack, w_par, w_put, w_append, w_insert, w_pop, w_popTo, w_onl, l_l, w_putE, p_l, p_k, w_expr, w_ret, w_retN, w_ite, w_wh, w_for, w_brk, w_cont, w_pass, a_ii, a_ss, a_ll, a_tt, s_ii, m_ii, d_ii, r_ii, t_none, t_bool, t_int, t_list, t_tuple, n_int, lt_ii, le_ii, gt_ii, ge_ii, eq_ii, ne_ii, eq_bb, ne_bb, is_bb, isn_bb, i_li, i_ti, sq_l, sq_t, sq_s, ll_l, as_l, as_t, ip_i, b_lenl, b_lent, b_lens, b_abs, b_inti, b_intb, b_tl, b_isb, b_isl, b_ist, b_isi, b_isbi, l_nx, l_ct, l_bk, l_rt, slot_l, slot_k, slot_d, Option.bind_some, Option.bind_none, List.getElem?_cons_zero, List.getElem?_cons_succ, List.set_cons_zero, List.set_cons_succ, at0, at1, at2, isLst, isOwn, true_and, and_true, Bool.not_true, Bool.not_false, decide_true, decide_false, o_ite, o_iteP, p64, p50, p40, p11, p11b, p12, p6, dk2, dk3, dk4, dk5, dk7, dk8, dk10, dk16, dk32, dk64, dk128, dk1024, dk2048, dk42, dk60, dk9, dk6, asg, setAll, wipeE, reduceIte, eq_self, ite_true, ite_false, b_sum, b_sum2, es_ee, nes_ee, es_ep, nes_ep, es_et, nes_et, es_pe, nes_pe, es_pp, nes_pp, es_pt, nes_pt, es_te, nes_te, es_tp, nes_tp, es_tt, nes_tt, o_last, la_l, dk0_int, dk0_str, nl_none, nl_int, nl_var, nl_bin, nl_neg, nl_idx, nl_bi, pt_t, pt_f, sl_l, sl_t, mul_li, b_isbl, view_d, Option.map_some, tyD, mtTy, view_o, tyD_dic, List.length_map]
    refine ⟨r62_sm (by omega), w_range (rnds bs).length rfl (fun k ρ => ∃ b c d, ρ = [.d (iL ns), .d (bd one), .d (bd other), .d (.list ((rnds bs).map iL)), .d (bd bs), a, b, c, d, .unb]) ⟨_, _, _, rfl⟩ ?_ ?_⟩
    · rintro k ρ hk ⟨b, c, d, rfl⟩
      obtain ⟨t, ht⟩ : ∃ t, (rnds bs)[k]? = some t := ⟨_, List.getElem?_eq_getElem hk⟩
      obtain ⟨tl, tn, tk⟩ := all t (List.mem_of_getElem? ht)
      have tne : t ≠ [] := fun e => by rw [e, List.length_nil] at tl; omega
      have sl := step_len tl
      simp only [startE, List.map_cons, List.map_nil, List.length_cons, List.length_nil, List.replicate, List.cons_append, List.nil_append, Nat.reduceAdd, Nat.reduceSub, w_ok, w_bind, w_ofO, o_some, o_map, o_bind, i_t, i_f, i_not, w_lit, w_glob, w_var, v_d, v_l, v_k, o_both, w_bin, w_neg, w_tru, w_not, w_and, w_or, w_cmp, w_chain, w_ife, w_call, w_bi, w_get2, w_mt, w_idx, w_slice, w_tuple, w_fr, ws_nil, ws_cons, wo_list, wo_listOf, wo_dict0, wo_dict1, wo_comp, wi_seq, wi_range1, wi_range2, wi_enum, wi_zip, wi_rev, wi_keys, w_lookf, w_lookt, w_frd, w_fro, f_l, f_k, w_fa0, w_fa1, o_view, o_viewd, o_views0, o_views1, uc_int, uc_bool, uc_str, uc_none, uc_list, uc_tuple, k_bk, k_ct, k_rt, w_nil, w_cons, w_set, w_own, w_unpack, w_par, w_put, w_append, w_insert, w_pop, w_popTo, w_onl, l_l, w_putE, p_l, p_k, w_expr, w_ret, w_retN, w_ite, w_wh, w_for, w_brk, w_cont, w_pass, a_ii, a_ss, a_ll, a_tt, s_ii, m_ii, d_ii, r_ii, t_none, t_bool, t_int, t_list, t_tuple, n_int, lt_ii, le_ii, gt_ii, ge_ii, eq_ii, ne_ii, eq_bb, ne_bb, is_bb, isn_bb, i_li, i_ti, sq_l, sq_t, sq_s, ll_l, as_l, as_t, ip_i, b_lenl, b_lent, b_lens, b_abs, b_inti, b_intb, b_tl, b_isb, b_isl, b_ist, b_isi, b_isbi, l_nx, l_ct, l_bk, l_rt, slot_l, slot_k, slot_d, Option.bind_some, Option.bind_none, List.getElem?_cons_zero, List.getElem?_cons_succ, List.set_cons_zero, List.set_cons_succ, at0, at1, at2, isLst, isOwn, true_and, and_true, Bool.not_true, Bool.not_false, decide_true, decide_false, o_ite, o_iteP, p64, p50, p40, p11, p11b, p12, p6, dk2, dk3, dk4, dk5, dk7, dk8, dk10, dk16, dk32, dk64, dk128, dk1024, dk2048, dk42, dk60, dk9, dk6, asg, setAll, wipeE, reduceIte, eq_self, ite_true, ite_false, b_sum, b_sum2, es_ee, nes_ee, es_ep, nes_ep, es_et, nes_et, es_pe, nes_pe, es_pp, nes_pp, es_pt, nes_pt, es_te, nes_te, es_tp, nes_tp, es_tt, nes_tt, o_last, la_l, dk0_int, dk0_str, nl_none, nl_int, nl_var, nl_bin, nl_neg, nl_idx, nl_bi, pt_t, pt_f, sl_l, sl_t, mul_li, b_isbl, view_d, Option.map_some, tyD, mtTy, view_o, tyD_dic, at_nat, List.getElem?_map, ht, Option.map_some]
      refine call0 (h17 bs t (by omega) tl (fun p hp => by rw [tl]; exact okb.2 p hp) tk) rfl ?_
      rintro _ rfl
      simp only [startE, List.map_cons, List.map_nil, List.length_cons, List.length_nil, List.replicate, List.cons_append, List.nil_append, Nat.reduceAdd, Nat.reduceSub, w_ok, w_bind, w_ofO, o_some, o_map, o_bind, i_t, i_f, i_not, w_lit, w_glob, w_var, v_d, v_l, v_k, o_both, w_bin, w_neg, w_tru, w_not, w_and, w_or, w_cmp, w_chain, w_ife, w_call, w_bi, w_get2, w_mt, w_idx, w_slice, w_tuple, w_fr, ws_nil, ws_cons, wo_list, wo_listOf, wo_dict0, wo_dict1, wo_comp, wi_seq, wi_range1, wi_range2, wi_enum, wi_zip, wi_rev, wi_keys, w_lookf, w_lookt, w_frd, w_fro, f_l, f_k, w_fa0, w_fa1, o_view, o_viewd, o_views0, o_views1, uc_int, uc_bool, uc_str, uc_none, uc_list, uc_tuple, k_bk, k_ct, k_rt, w_nil, w_cons, w_set, w_own, w_unpack, w_par, w_put, w_append, w_insert, w_pop, w_popTo, w_onl, l_l, w_putE, p_l, p_k, w_expr, w_ret, w_retN, w_ite, w_wh, w_for, w_brk, w_cont, w_pass, a_ii, a_ss, a_ll, a_tt, s_ii, m_ii, d_ii, r_ii, t_none, t_bool, t_int, t_list, t_tuple, n_int, lt_ii, le_ii, gt_ii, ge_ii, eq_ii, ne_ii, eq_bb, ne_bb, is_bb, isn_bb, i_li, i_ti, sq_l, sq_t, sq_s, ll_l, as_l, as_t, ip_i, b_lenl, b_lent, b_lens, b_abs, b_inti, b_intb, b_tl, b_isb, b_isl, b_ist, b_isi, b_isbi, l_nx, l_ct, l_bk, l_rt, slot_l, slot_k, slot_d, Option.bind_some, Option.bind_none, List.getElem?_cons_zero, List.getElem?_cons_succ, List.set_cons_zero, List.set_cons_succ, at0, at1, at2, isLst, isOwn, true_and, and_true, Bool.not_true, Bool.not_false, decide_true, decide_false, o_ite, o_iteP, p64, p50, p40, p11, p11b, p12, p6, dk2, dk3, dk4, dk5, dk7, dk8, dk10, dk16, dk32, dk64, dk128, dk1024, dk2048, dk42, dk60, dk9, dk6, asg, setAll, wipeE, reduceIte, eq_self, ite_true, ite_false, b_sum, b_sum2, es_ee, nes_ee, es_ep, nes_ep, es_et, nes_et, es_pe, nes_pe, es_pp, nes_pp, es_pt, nes_pt, es_te, nes_te, es_tp, nes_tp, es_tt, nes_tt, o_last, la_l, dk0_int, dk0_str, nl_none, nl_int, nl_var, nl_bin, nl_neg, nl_idx, nl_bi, pt_t, pt_f, sl_l, sl_t, mul_li, b_isbl, view_d, Option.map_some, tyD, mtTy, view_o, tyD_dic]
      rw [k_nx]
      simp only [startE, List.map_cons, List.map_nil, List.length_cons, List.length_nil, List.replicate, List.cons_append, List.nil_append, Nat.reduceAdd, Nat.reduceSub, w_ok, w_bind, w_ofO, o_some, o_map, o_bind, i_t, i_f, i_not, w_lit, w_glob, w_var, v_d, v_l, v_k, o_both, w_bin, w_neg, w_tru, w_not, w_and, w_or, w_cmp, w_chain, w_ife, w_call, w_bi, w_get2, w_mt, w_idx, w_slice, w_tuple, w_fr, ws_nil, ws_cons, wo_list, wo_listOf, wo_dict0, wo_dict1, wo_comp, wi_seq, wi_range1, wi_range2, wi_enum, wi_zip, wi_rev, wi_keys, w_lookf, w_lookt, w_frd, w_fro, f_l, f_k, w_fa0, w_fa1, o_view, o_viewd, o_views0, o_views1, uc_int, uc_bool, uc_str, uc_none, uc_list, uc_tuple, k_bk, k_ct, k_rt, w_nil, w_cons, w_set, w_own, w_unpack, w_par, w_put, w_append, w_insert, w_pop, w_popTo, w_onl, l_l, w_putE, p_l, p_k, w_expr, w_ret, w_retN, w_ite, w_wh, w_for, w_brk, w_cont, w_pass, a_ii, a_ss, a_ll, a_tt, s_ii, m_ii, d_ii, r_ii, t_none, t_bool, t_int, t_list, t_tuple, n_int, lt_ii, le_ii, gt_ii, ge_ii, eq_ii, ne_ii, eq_bb, ne_bb, is_bb, isn_bb, i_li, i_ti, sq_l, sq_t, sq_s, ll_l, as_l, as_t, ip_i, b_lenl, b_lent, b_lens, b_abs, b_inti, b_intb, b_tl, b_isb, b_isl, b_ist, b_isi, b_isbi, l_nx, l_ct, l_bk, l_rt, slot_l, slot_k, slot_d, Option.bind_some, Option.bind_none, List.getElem?_cons_zero, List.getElem?_cons_succ, List.set_cons_zero, List.set_cons_succ, at0, at1, at2, isLst, isOwn, true_and, and_true, Bool.not_true, Bool.not_false, decide_true, decide_false, o_ite, o_iteP, p64, p50, p40, p11, p11b, p12, p6, dk2, dk3, dk4, dk5, dk7, dk8, dk10, dk16, dk32, dk64, dk128, dk1024, dk2048, dk42, dk60, dk9, dk6, asg, setAll, wipeE, reduceIte, eq_self, ite_true, ite_false, b_sum, b_sum2, es_ee, nes_ee, es_ep, nes_ep, es_et, nes_et, es_pe, nes_pe, es_pp, nes_pp, es_pt, nes_pt, es_te, nes_te, es_tp, nes_tp, es_tt, nes_tt, o_last, la_l, dk0_int, dk0_str, nl_none, nl_int, nl_var, nl_bin, nl_neg, nl_idx, nl_bi, pt_t, pt_f, sl_l, sl_t, mul_li, b_isbl, view_d, Option.map_some, tyD, mtTy, view_o, tyD_dic, at_nat, List.getElem?_map, ht, Option.map_some, b_lenset]
      refine ⟨by omega, by omega, ?_⟩
      rw [k_nx]
      simp only [startE, List.map_cons, List.map_nil, List.length_cons, List.length_nil, List.replicate, List.cons_append, List.nil_append, Nat.reduceAdd, Nat.reduceSub, w_ok, w_bind, w_ofO, o_some, o_map, o_bind, i_t, i_f, i_not, w_lit, w_glob, w_var, v_d, v_l, v_k, o_both, w_bin, w_neg, w_tru, w_not, w_and, w_or, w_cmp, w_chain, w_ife, w_call, w_bi, w_get2, w_mt, w_idx, w_slice, w_tuple, w_fr, ws_nil, ws_cons, wo_list, wo_listOf, wo_dict0, wo_dict1, wo_comp, wi_seq, wi_range1, wi_range2, wi_enum, wi_zip, wi_rev, wi_keys, w_lookf, w_lookt, w_frd, w_fro, f_l, f_k, w_fa0, w_fa1, o_view, o_viewd, o_views0, o_views1, uc_int, uc_bool, uc_str, uc_none, uc_list, uc_tuple, k_bk, k_ct, k_rt, w_nil, w_cons, w_set, w_own, w_unpack, w_par, w_put, w_append, w_insert, w_pop, w_popTo, w_onl, l_l, w_putE, p_l, p_k, w_expr, w_ret, w_retN, w_ite, w_wh, w_for, w_brk, w_cont, w_pass, a_ii, a_ss, a_ll, a_tt, s_ii, m_ii, d_ii, r_ii, t_none, t_bool, t_int, t_list, t_tuple, n_int, lt_ii, le_ii, gt_ii, ge_ii, eq_ii, ne_ii, eq_bb, ne_bb, is_bb, isn_bb, i_li, i_ti, sq_l, sq_t, sq_s, ll_l, as_l, as_t, ip_i, b_lenl, b_lent, b_lens, b_abs, b_inti, b_intb, b_tl, b_isb, b_isl, b_ist, b_isi, b_isbi, l_nx, l_ct, l_bk, l_rt, slot_l, slot_k, slot_d, Option.bind_some, Option.bind_none, List.getElem?_cons_zero, List.getElem?_cons_succ, List.set_cons_zero, List.set_cons_succ, at0, at1, at2, isLst, isOwn, true_and, and_true, Bool.not_true, Bool.not_false, decide_true, decide_false, o_ite, o_iteP, p64, p50, p40, p11, p11b, p12, p6, dk2, dk3, dk4, dk5, dk7, dk8, dk10, dk16, dk32, dk64, dk128, dk1024, dk2048, dk42, dk60, dk9, dk6, asg, setAll, wipeE, reduceIte, eq_self, ite_true, ite_false, b_sum, b_sum2, es_ee, nes_ee, es_ep, nes_ep, es_et, nes_et, es_pe, nes_pe, es_pp, nes_pp, es_pt, nes_pt, es_te, nes_te, es_tp, nes_tp, es_tt, nes_tt, o_last, la_l, dk0_int, dk0_str, nl_none, nl_int, nl_var, nl_bin, nl_neg, nl_idx, nl_bi, pt_t, pt_f, sl_l, sl_t, mul_li, b_isbl, view_d, Option.map_some, tyD, mtTy, view_o, tyD_dic, List.length_map]
      have mi := more_iff tn tne tl
      refine WI_d (fun h => ?_) fun h => ?_
      · have hk1 : k + 1 < (rnds bs).length := by omega
        obtain ⟨u, hu⟩ : ∃ u, (rnds bs)[k + 1]? = some u := ⟨_, List.getElem?_eq_getElem hk1⟩
        obtain ⟨e, hm⟩ := ch k t u ht hu
        rw [e] at hm
        have hm2 : ((unlike t).length : Int) < (unlike (AL.step bs t)).length := by have := mi.mpr hm; omega
        refine WI_t hm2 ?_
        rw [show (k : Int) + 1 = ((k + 1 : Nat) : Int) by omega, at_nat, List.getElem?_map, hu, Option.map_some, o_some, ne_ints, e]
        simp only [startE, List.map_cons, List.map_nil, List.length_cons, List.length_nil, List.replicate, List.cons_append, List.nil_append, Nat.reduceAdd, Nat.reduceSub, w_ok, w_bind, w_ofO, o_some, o_map, o_bind, i_t, i_f, i_d, i_not, w_lit, w_glob, w_var, v_d, v_l, v_k, o_both, w_bin, w_neg, w_tru, w_not, w_and, w_or, w_cmp, w_chain, w_ife, w_call, w_bi, w_get2, w_mt, w_idx, w_slice, w_tuple, w_fr, ws_nil, ws_cons, wo_list, wo_listOf, wo_dict0, wo_dict1, wo_comp, wi_seq, wi_range1, wi_range2, wi_enum, wi_zip, wi_rev, wi_keys, w_lookf, w_lookt, w_frd, w_fro, f_l, f_k, w_fa0, w_fa1, o_view, o_viewd, o_views0, o_views1, uc_int, uc_bool, uc_str, uc_none, uc_list, uc_tuple, k_nx, k_bk, k_ct, k_rt, w_nil, w_cons, w_set, w_own, w_unpack, w_par, w_put, w_append, w_insert, w_pop, w_popTo, w_onl, l_l, w_putE, p_l, p_k, w_expr, w_ret, w_retN, w_ite, w_wh, w_for, w_brk, w_cont, w_pass, a_ii, a_ss, a_ll, a_tt, s_ii, m_ii, d_ii, r_ii, t_none, t_bool, t_int, t_list, t_tuple, n_int, lt_ii, le_ii, gt_ii, ge_ii, eq_ii, ne_ii, eq_bb, ne_bb, is_bb, isn_bb, i_li, i_ti, sq_l, sq_t, sq_s, ll_l, as_l, as_t, ip_i, b_lenl, b_lent, b_lens, b_abs, b_inti, b_intb, b_tl, b_isb, b_isl, b_ist, b_isi, b_isbi, l_nx, l_ct, l_bk, l_rt, slot_l, slot_k, slot_d, Option.bind_some, Option.bind_none, List.getElem?_cons_zero, List.getElem?_cons_succ, List.set_cons_zero, List.set_cons_succ, at0, at1, at2, isLst, isOwn, true_and, and_true, Bool.not_true, Bool.not_false, decide_true, decide_false, o_ite, o_iteP, p64, p50, p40, p11, p11b, p12, p6, dk2, dk3, dk4, dk5, dk7, dk8, dk10, dk16, dk32, dk64, dk128, dk1024, dk2048, dk42, dk60, dk9, dk6, asg, setAll, wipeE, reduceIte, eq_self, ite_true, ite_false, b_sum, b_sum2, es_ee, nes_ee, es_ep, nes_ep, es_et, nes_et, es_pe, nes_pe, es_pp, nes_pp, es_pt, nes_pt, es_te, nes_te, es_tp, nes_tp, es_tt, nes_tt, o_last, la_l, dk0_int, dk0_str, nl_none, nl_int, nl_var, nl_bin, nl_neg, nl_idx, nl_bi, pt_t, pt_f, sl_l, sl_t, mul_li, b_isbl, view_d, Option.map_some, tyD, mtTy, view_o, tyD_dic ]
        exact ⟨_, _, _, rfl⟩
      · have hk1 : k + 1 = (rnds bs).length := by omega
        have e : fin bs = t := by
          unfold fin lst
          rw [List.getLast?_eq_getElem?, show (rnds bs).length - 1 = k by omega, ht]
          rfl
        have st := fin_stop (bs := bs) (fun e => by rw [e] at bl; simp at bl; omega)
        rw [e] at st
        have hm2 : ¬ ((unlike t).length : Int) < (unlike (AL.step bs t)).length := fun z => by
          have := mi.mp (by omega)
          omega
        refine WI_f hm2 ?_
        simp only [startE, List.map_cons, List.map_nil, List.length_cons, List.length_nil, List.replicate, List.cons_append, List.nil_append, Nat.reduceAdd, Nat.reduceSub, w_ok, w_bind, w_ofO, o_some, o_map, o_bind, i_t, i_f, i_d, i_not, w_lit, w_glob, w_var, v_d, v_l, v_k, o_both, w_bin, w_neg, w_tru, w_not, w_and, w_or, w_cmp, w_chain, w_ife, w_call, w_bi, w_get2, w_mt, w_idx, w_slice, w_tuple, w_fr, ws_nil, ws_cons, wo_list, wo_listOf, wo_dict0, wo_dict1, wo_comp, wi_seq, wi_range1, wi_range2, wi_enum, wi_zip, wi_rev, wi_keys, w_lookf, w_lookt, w_frd, w_fro, f_l, f_k, w_fa0, w_fa1, o_view, o_viewd, o_views0, o_views1, uc_int, uc_bool, uc_str, uc_none, uc_list, uc_tuple, k_nx, k_bk, k_ct, k_rt, w_nil, w_cons, w_set, w_own, w_unpack, w_par, w_put, w_append, w_insert, w_pop, w_popTo, w_onl, l_l, w_putE, p_l, p_k, w_expr, w_ret, w_retN, w_ite, w_wh, w_for, w_brk, w_cont, w_pass, a_ii, a_ss, a_ll, a_tt, s_ii, m_ii, d_ii, r_ii, t_none, t_bool, t_int, t_list, t_tuple, n_int, lt_ii, le_ii, gt_ii, ge_ii, eq_ii, ne_ii, eq_bb, ne_bb, is_bb, isn_bb, i_li, i_ti, sq_l, sq_t, sq_s, ll_l, as_l, as_t, ip_i, b_lenl, b_lent, b_lens, b_abs, b_inti, b_intb, b_tl, b_isb, b_isl, b_ist, b_isi, b_isbi, l_nx, l_ct, l_bk, l_rt, slot_l, slot_k, slot_d, Option.bind_some, Option.bind_none, List.getElem?_cons_zero, List.getElem?_cons_succ, List.set_cons_zero, List.set_cons_succ, at0, at1, at2, isLst, isOwn, true_and, and_true, Bool.not_true, Bool.not_false, decide_true, decide_false, o_ite, o_iteP, p64, p50, p40, p11, p11b, p12, p6, dk2, dk3, dk4, dk5, dk7, dk8, dk10, dk16, dk32, dk64, dk128, dk1024, dk2048, dk42, dk60, dk9, dk6, asg, setAll, wipeE, reduceIte, eq_self, ite_true, ite_false, b_sum, b_sum2, es_ee, nes_ee, es_ep, nes_ep, es_et, nes_et, es_pe, nes_pe, es_pp, nes_pp, es_pt, nes_pt, es_te, nes_te, es_tp, nes_tp, es_tt, nes_tt, o_last, la_l, dk0_int, dk0_str, nl_none, nl_int, nl_var, nl_bin, nl_neg, nl_idx, nl_bi, pt_t, pt_f, sl_l, sl_t, mul_li, b_isbl, view_d, Option.map_some, tyD, mtTy, view_o, tyD_dic ]
        exact ⟨_, _, _, rfl⟩
    · rintro ρ ⟨b, c, d, rfl⟩
      simp only [startE, List.map_cons, List.map_nil, List.length_cons, List.length_nil, List.replicate, List.cons_append, List.nil_append, Nat.reduceAdd, Nat.reduceSub, w_ok, w_bind, w_ofO, o_some, o_map, o_bind, i_t, i_f, i_d, i_not, w_lit, w_glob, w_var, v_d, v_l, v_k, o_both, w_bin, w_neg, w_tru, w_not, w_and, w_or, w_cmp, w_chain, w_ife, w_call, w_bi, w_get2, w_mt, w_idx, w_slice, w_tuple, w_fr, ws_nil, ws_cons, wo_list, wo_listOf, wo_dict0, wo_dict1, wo_comp, wi_seq, wi_range1, wi_range2, wi_enum, wi_zip, wi_rev, wi_keys, w_lookf, w_lookt, w_frd, w_fro, f_l, f_k, w_fa0, w_fa1, o_view, o_viewd, o_views0, o_views1, uc_int, uc_bool, uc_str, uc_none, uc_list, uc_tuple, k_nx, k_bk, k_ct, k_rt, w_nil, w_cons, w_set, w_own, w_unpack, w_par, w_put, w_append, w_insert, w_pop, w_popTo, w_onl, l_l, w_putE, p_l, p_k, w_expr, w_ret, w_retN, w_ite, w_wh, w_for, w_brk, w_cont, w_pass, a_ii, a_ss, a_ll, a_tt, s_ii, m_ii, d_ii, r_ii, t_none, t_bool, t_int, t_list, t_tuple, n_int, lt_ii, le_ii, gt_ii, ge_ii, eq_ii, ne_ii, eq_bb, ne_bb, is_bb, isn_bb, i_li, i_ti, sq_l, sq_t, sq_s, ll_l, as_l, as_t, ip_i, b_lenl, b_lent, b_lens, b_abs, b_inti, b_intb, b_tl, b_isb, b_isl, b_ist, b_isi, b_isbi, l_nx, l_ct, l_bk, l_rt, slot_l, slot_k, slot_d, Option.bind_some, Option.bind_none, List.getElem?_cons_zero, List.getElem?_cons_succ, List.set_cons_zero, List.set_cons_succ, at0, at1, at2, isLst, isOwn, true_and, and_true, Bool.not_true, Bool.not_false, decide_true, decide_false, o_ite, o_iteP, p64, p50, p40, p11, p11b, p12, p6, dk2, dk3, dk4, dk5, dk7, dk8, dk10, dk16, dk32, dk64, dk128, dk1024, dk2048, dk42, dk60, dk9, dk6, asg, setAll, wipeE, reduceIte, eq_self, ite_true, ite_false, b_sum, b_sum2, es_ee, nes_ee, es_ep, nes_ep, es_et, nes_et, es_pe, nes_pe, es_pp, nes_pp, es_pt, nes_pt, es_te, nes_te, es_tp, nes_tp, es_tt, nes_tt, o_last, la_l, dk0_int, dk0_str, nl_none, nl_int, nl_var, nl_bin, nl_neg, nl_idx, nl_bi, pt_t, pt_f, sl_l, sl_t, mul_li, b_isbl, view_d, Option.map_some, tyD, mtTy, view_o, tyD_dic ]
end K71
end VI
set_option Elab.async false
set_option linter.all false
set_option autoImplicit false
set_option maxRecDepth 20000
namespace VI
namespace K71
open PySem AL
abbrev T9 : List Fn := C0 :: tab8
abbrev T10 : List Fn := C1 :: T9
abbrev T11 : List Fn := D11 :: T10
abbrev T12 : List Fn := D12 :: T11
abbrev T13 : List Fn := D13 :: T12
abbrev T14 : List Fn := D14 :: T13
abbrev T15 : List Fn := D15 :: T14
abbrev T16 : List Fn := D16 :: T15
abbrev T17 : List Fn := D17 :: T16
abbrev T18 : List Fn := D18 :: T17
theorem s9 {Φ : Fns} (X : Tbl T9 Φ) {ns : List Int} (hl : ns.length ≤ 63) (hb : ∀ z ∈ ns, z.natAbs.log2 ≤ 1048576) : Cell Φ ns := fun k h0 h1 => by
  obtain ⟨n, rfl⟩ := Int.eq_ofNat_of_zero_le h0
  obtain ⟨z, h, hz⟩ := cell (Φ := fns tab8) ns n (by omega) hl hb
  exact X.r0 rfl (R0_eq h ⟨z, rfl, hz⟩)
theorem s10 {Φ : Fns} (X : Tbl T10 Φ) : Mixed Φ := fun c m hm => by
  obtain ⟨z, h, hz⟩ := mixed (Φ := fns T9) c m hm
  exact X.r0 rfl (R0_eq h ⟨z, rfl, hz⟩)
theorem s13 {Φ : Fns} (X : Tbl T13 Φ) {ns : List Int} (hl : ns.length ≤ 63) (hb : ∀ z ∈ ns, z.natAbs.log2 ≤ 1048576) (who : Int) (hw : 0 ≤ who ∧ who ≤ 1) : R0 (Φ 13 [iL ns, .int who]) fun x => ∃ bs : List Pl, x = bd bs ∧ (1 ≤ bs.length ∧ bs.length ≤ 24) ∧ OkO bs := by
  obtain ⟨w, rfl⟩ := Int.eq_ofNat_of_zero_le hw.1
  exact X.r0 rfl (board (by omega) (s9 (Tbl.dr 3 (Tbl.self T12)) hl hb) fun c k n m hc hn hk hm => (Tbl.self T12).r0 rfl (place hc hn hk hm (s10 (Tbl.dr 1 (Tbl.self T11))) fun b k n m hk hm => (Tbl.self T11).r0 rfl (goal hk hm)))
theorem s16 {Φ : Fns} (X : Tbl T16 Φ) {t : List Int} (p q : Pl) (hp : OkP t.length p) (hq : OkP t.length q) : R0 (Φ 16 [p.enc, q.enc, iL t]) fun x => x = .bool (asb t p q) :=
  X.r0 rfl (asone hp hq fun p hp => (Tbl.self T15).r0 rfl (weights hp))
theorem all (ns : List Int) (hl : ns.length ≤ 63) (hb : ∀ z ∈ ns, z.natAbs.log2 ≤ 1048576) : fns T18 18 [iL ns] = .ok (.bool true) :=
  R0_is ((Tbl.self T18).r0 rfl (law (s13 (Tbl.dr 4 (Tbl.self T17)) hl hb) (fun p b h => (Tbl.dr 3 (Tbl.self T17)).r0 rfl (behind h)) (fun bs t h1 h2 h3 h4 => (Tbl.self T17).r0 rfl (next h1 h2 h3 h4 fun p q hp hq => s16 (Tbl.self _) p q hp hq)) (Tbl.dr 9 (Tbl.self T17))))
end K71
end VI
set_option Elab.async false
set_option linter.all false
set_option autoImplicit false
set_option maxRecDepth 100000
namespace LW
open PySem PySem.Spec PyProof.Rows L2 VI
def top (i : Nat) : Stmt := PySem.Challenge.pw_pressluck_k71_round_by_round.main.body.getD i (.Pass ⟨0, 0, 0, 0⟩)
/-- goals_of: place pair -/
def c0 : Fn := ⟨2, (.cons (.ite (.cmp .eq (.idx (.var 0) (.lit (.int 0))) (.lit (.str ("end" : Str)))) (.cons (.ret (.fr (.list .nil))) .nil) .nil) (.cons (.ite (.cmp .eq (.idx (.var 0) (.lit (.int 0))) (.lit (.str ("throw" : Str)))) (.cons (.ret (.fr (.comp (.idx (.var 1) (.lit (.int 1))) (.name 1) (.seq (.idx (.var 0) (.lit (.int 2)))) (.lit (.bool true)) [1]))) .nil) .nil) (.cons (.ret (.fr (.listOf (.idx (.var 0) (.lit (.int 2)))))) .nil)))⟩
def d0 : DD := ⟨"goals_of", top 1, ["place", "pair"], 1, c0⟩
/-- divisor_of: one other -/
def c1 : Fn := ⟨2, (.cons (.wh (.cmp .gt (.var 1) (.lit (.int 0))) (.cons (.par [0, 1] (.cons (.var 1) (.cons (.bin .mod (.var 0) (.var 1)) .nil))) .nil)) (.cons (.ret (.var 0)) .nil))⟩
def d1 : DD := ⟨"divisor_of", top 6, ["one", "other"], 2, c1⟩
/-- share: top bottom by -/
def c2 : Fn := ⟨3, (.cons (.ite (.cmp .eq (.var 1) (.lit (.int 0))) (.cons .never .nil) .nil) (.cons (.ite (.cmp .lt (.var 1) (.lit (.int 0))) (.cons (.set 0 (.neg (.var 0))) (.cons (.set 1 (.neg (.var 1))) .nil)) .nil) (.cons (.set 2 (.call 1 (.cons (.bi .abs (.cons (.var 0) .nil)) (.cons (.var 1) .nil)))) (.cons (.ret (.tuple (.cons (.bin .fdiv (.var 0) (.var 2)) (.cons (.bin .fdiv (.var 1) (.var 2)) .nil)))) .nil))))⟩
def d2 : DD := ⟨"share", top 7, ["top", "bottom", "by"], 2, c2⟩
/-- numbered: marks names found mark -/
def c3 : Fn := ⟨4, (.cons (.own 1 .dict0) (.cons (.own 2 (.list .nil)) (.cons (.for_ (.name 3) (.seq (.var 0)) (.cons (.ite (.cmp .notIn (.var 3) (.var 1)) (.cons (.put 1 (.var 3) (.bi .len (.cons (.var 1) .nil))) .nil) .nil) (.cons (.append 2 (.idx (.var 1) (.var 3))) .nil))) (.cons (.ret (.var 2)) .nil))))⟩
def d3 : DD := ⟨"numbered", top 9, ["marks", "names", "found", "mark"], 1, c3⟩
/-- shares_by: place numbers whole weights weight goal pair number -/
def c4 : Fn := ⟨8, (.cons (.set 2 (.bi .sum (.cons (.fr (.comp (.idx (.var 6) (.lit (.int 0))) (.name 6) (.seq (.idx (.var 0) (.lit (.int 2)))) (.lit (.bool true)) [6])) .nil))) (.cons (.own 3 .dict0) (.cons (.for_ (.tup [4, 5]) (.seq (.idx (.var 0) (.lit (.int 2)))) (.cons (.put 3 (.idx (.var 1) (.var 5)) (.bin .add (.get2 (.var 3) (.idx (.var 1) (.var 5)) (.lit (.int 0))) (.var 4))) .nil)) (.cons (.ret (.bi .tuple (.cons (.fr (.comp (.tuple (.cons (.var 7) (.cons (.call 2 (.cons (.idx (.var 3) (.var 7)) (.cons (.var 2) .nil))) .nil))) (.name 7) (.seq (.bi .sorted (.cons (.var 3) .nil))) (.lit (.bool true)) [7])) .nil))) .nil))))⟩
def d4 : DD := ⟨"shares_by", top 10, ["place", "numbers", "whole", "weights", "weight", "goal", "pair", "number"], 2, c4⟩
/-- mark_of: place number numbers goal -/
def c5 : Fn := ⟨4, (.cons (.ite (.cmp .eq (.idx (.var 0) (.lit (.int 0))) (.lit (.str ("throw" : Str)))) (.cons (.ret (.tuple (.cons (.var 1) (.cons (.call 4 (.cons (.var 0) (.cons (.var 2) .nil))) .nil)))) .nil) .nil) (.cons (.ret (.tuple (.cons (.var 1) (.cons (.bi .tuple (.cons (.bi .sortedSet (.cons (.fr (.comp (.idx (.var 2) (.var 3)) (.name 3) (.seq (.call 0 (.cons (.var 0) .nil))) (.lit (.bool true)) [3])) .nil)) .nil)) .nil)))) .nil))⟩
def d5 : DD := ⟨"mark_of", top 11, ["place", "number", "numbers", "goal"], 3, c5⟩
/-- next_round: board numbers place number -/
def c6 : Fn := ⟨4, (.cons (.ret (.call 3 (.cons (.fr (.comp (.call 5 (.cons (.var 2) (.cons (.var 3) (.cons (.var 1) .nil)))) (.tup [2, 3]) (.zip (.var 0) (.var 1)) (.lit (.bool true)) [2, 3])) .nil))) .nil)⟩
def d6 : DD := ⟨"next_round", top 12, ["board", "numbers", "place", "number"], 2, c6⟩
/-- shifted: board by found place weight goal -/
def c7 : Fn := ⟨6, (.cons (.own 2 (.list .nil)) (.cons (.for_ (.name 3) (.seq (.var 0)) (.cons (.ite (.cmp .eq (.idx (.var 3) (.lit (.int 0))) (.lit (.str ("throw" : Str)))) (.cons (.append 2 (.tuple (.cons (.lit (.str ("throw" : Str))) (.cons (.idx (.var 3) (.lit (.int 1))) (.cons (.fr (.comp (.tuple (.cons (.var 4) (.cons (.bin .add (.var 5) (.var 1)) .nil))) (.tup [4, 5]) (.seq (.idx (.var 3) (.lit (.int 2)))) (.lit (.bool true)) [4, 5])) .nil))))) .nil) (.cons (.ite (.cmp .eq (.idx (.var 3) (.lit (.int 0))) (.lit (.str ("pick" : Str)))) (.cons (.append 2 (.tuple (.cons (.lit (.str ("pick" : Str))) (.cons (.idx (.var 3) (.lit (.int 1))) (.cons (.fr (.comp (.bin .add (.var 5) (.var 1)) (.name 5) (.seq (.idx (.var 3) (.lit (.int 2)))) (.lit (.bool true)) [5])) .nil))))) .nil) (.cons (.append 2 (.var 3)) .nil)) .nil)) .nil)) (.cons (.ret (.var 2)) .nil)))⟩
def d7 : DD := ⟨"shifted", top 13, ["board", "by", "found", "place", "weight", "goal"], 2, c7⟩
/-- rounds: one other both told after place -/
def c8 : Fn := ⟨6, (.cons (.set 2 (.bin .add (.fr (.listOf (.var 0))) (.call 7 (.cons (.var 1) (.cons (.bi .len (.cons (.var 0) .nil)) .nil))))) (.cons (.own 3 (.list (.cons (.call 3 (.cons (.fr (.comp (.slice (.var 5) (.lit .none) (.lit (.int 2))) (.name 5) (.seq (.var 2)) (.lit (.bool true)) [5])) .nil)) .nil))) (.cons (.set 4 (.call 6 (.cons (.var 2) (.cons (.idx (.var 3) (.neg (.lit (.int 1)))) .nil)))) (.cons (.wh (.cmp .gt (.bi .max (.cons (.var 4) .nil)) (.bi .max (.cons (.idx (.var 3) (.neg (.lit (.int 1)))) .nil))) (.cons (.append 3 (.var 4)) (.cons (.set 4 (.call 6 (.cons (.var 2) (.cons (.var 4) .nil)))) .nil))) (.cons (.ret (.var 3)) .nil)))))⟩
def d8 : DD := ⟨"rounds", top 14, ["one", "other", "both", "told", "after", "place"], 2, c8⟩
/-- _law_cell: _law_script _law_k _law_number -/
def c9 : Fn := ⟨3, (.cons (.ite (.cmp .lt (.var 1) (.bi .len (.cons (.var 0) .nil))) (.cons (.ret (.idx (.var 0) (.var 1))) .nil) .nil) (.cons (.set 2 (.bin .add (.bin .mul (.var 1) (.lit (.int 7919))) (.lit (.int 11)))) (.cons (.ite (.cmp .gt (.bi .len (.cons (.var 0) .nil)) (.lit (.int 0))) (.cons (.set 2 (.bin .add (.bin .mul (.bin .mod (.idx (.var 0) (.bin .mod (.bin .mul (.var 1) (.lit (.int 7))) (.bi .len (.cons (.var 0) .nil)))) (.lit (.int 2147483647))) (.lit (.int 48271))) (.bin .mul (.var 1) (.lit (.int 7919))))) .nil) .nil) (.cons (.ret (.bin .mod (.bin .mul (.var 2) (.var 2)) (.lit (.int 2147483629)))) .nil))))⟩
def d9 : DD := ⟨"_law_cell", top 16, ["_law_script", "_law_k", "_law_number"], 2, c9⟩
/-- _law_mixed: _law_cell_here _law_many -/
def c10 : Fn := ⟨2, (.cons (.ret (.bin .mod (.bin .fdiv (.bin .mod (.bin .mul (.bin .mod (.var 0) (.bin .pow (.lit (.int 2)) (.lit (.int 64)))) (.lit (.int 11400714819323198485))) (.bin .pow (.lit (.int 2)) (.lit (.int 64)))) (.bin .pow (.lit (.int 2)) (.lit (.int 11)))) (.var 1))) .nil)⟩
def d10 : DD := ⟨"_law_mixed", top 17, ["_law_cell_here", "_law_many"], 2, c10⟩
/-- _law_goal: _law_bits _law_k _law_n _law_mode -/
def c11 : Fn := ⟨4, (.cons (.ite (.cmp .eq (.var 3) (.lit (.int 1))) (.cons (.ret (.bin .add (.bin .add (.var 1) (.lit (.int 1))) (.bin .mod (.var 0) (.bin .sub (.bin .sub (.var 2) (.lit (.int 1))) (.var 1))))) .nil) .nil) (.cons (.ret (.bin .mod (.var 0) (.var 2))) .nil))⟩
def d11 : DD := ⟨"_law_goal", top 18, ["_law_bits", "_law_k", "_law_n", "_law_mode"], 4, c11⟩
/-- _law_place: _law_cell_here _law_k _law_n _law_mode _law_bits _law_many _law_goals _law_weights_here _law_j -/
def c12 : Fn := ⟨9, (.cons (.set 4 (.call 10 (.cons (.var 0) (.cons (.bin .pow (.lit (.int 2)) (.lit (.int 50))) .nil)))) (.cons (.ite (.or (.cmp .lt (.bin .mod (.var 4) (.lit (.int 8))) (.lit (.int 2))) (.and (.cmp .eq (.var 3) (.lit (.int 1))) (.cmp .eq (.var 1) (.bin .sub (.var 2) (.lit (.int 1)))))) (.cons (.ret (.tuple (.cons (.lit (.str ("end" : Str))) (.cons (.tuple (.cons (.idx (.fr (.list (.cons (.lit (.int 0)) (.cons (.lit (.int 1)) (.cons (.lit (.int 1)) .nil))))) (.bin .mod (.bin .fdiv (.var 4) (.lit (.int 8))) (.lit (.int 3)))) (.cons (.lit (.int 1)) .nil))) .nil)))) .nil) .nil) (.cons (.set 5 (.bin .add (.lit (.int 1)) (.bin .mod (.bin .fdiv (.var 4) (.lit (.int 8))) (.lit (.int 4))))) (.cons (.ite (.cmp .lt (.bin .mod (.var 4) (.lit (.int 8))) (.lit (.int 6))) (.cons (.set 5 (.bin .add (.lit (.int 1)) (.bin .mod (.bin .fdiv (.var 4) (.lit (.int 8))) (.lit (.int 3))))) (.cons (.ite (.and (.cmp .eq (.bin .mod (.bin .fdiv (.var 4) (.lit (.int 64))) (.lit (.int 16))) (.lit (.int 1))) (.cmp .lt (.var 1) (.lit (.int 8)))) (.cons (.set 5 (.bin .add (.lit (.int 1)) (.bin .mod (.bin .fdiv (.var 4) (.lit (.int 1024))) (.lit (.int 100))))) .nil) .nil) .nil)) .nil) (.cons (.own 6 (.comp (.call 11 (.cons (.call 10 (.cons (.bin .add (.bin .mul (.var 0) (.bin .add (.bin .mul (.var 8) (.var 8)) (.lit (.int 3)))) (.var 8)) (.cons (.bin .pow (.lit (.int 2)) (.lit (.int 40))) .nil))) (.cons (.var 1) (.cons (.var 2) (.cons (.var 3) .nil))))) (.name 8) (.range1 (.var 5)) (.lit (.bool true)) [8])) (.cons (.ite (.cmp .gt (.bin .mod (.var 4) (.lit (.int 8))) (.lit (.int 5))) (.cons (.ret (.tuple (.cons (.lit (.str ("pick" : Str))) (.cons (.bin .add (.lit (.int 1)) (.bin .mod (.bin .fdiv (.var 4) (.lit (.int 64))) (.lit (.int 2)))) (.cons (.var 6) .nil))))) .nil) .nil) (.cons (.own 7 (.comp (.bin .add (.lit (.int 1)) (.bin .mod (.bin .fdiv (.var 4) (.bin .add (.lit (.int 7)) (.var 8))) (.idx (.fr (.list (.cons (.lit (.int 1)) (.cons (.lit (.int 2)) (.cons (.lit (.int 10000)) .nil))))) (.bin .mod (.bin .fdiv (.var 4) (.lit (.int 32))) (.lit (.int 3)))))) (.name 8) (.range1 (.var 5)) (.lit (.bool true)) [8])) (.cons (.ret (.tuple (.cons (.lit (.str ("throw" : Str))) (.cons (.tuple (.cons (.idx (.fr (.list (.cons (.lit (.int 0)) (.cons (.lit (.int 0)) (.cons (.lit (.int 1)) .nil))))) (.bin .mod (.bin .fdiv (.var 4) (.lit (.int 16))) (.lit (.int 3)))) (.cons (.lit (.int 1)) .nil))) (.cons (.fr (.comp (.tuple (.cons (.idx (.var 7) (.var 8)) (.cons (.idx (.var 6) (.var 8)) .nil))) (.name 8) (.range1 (.var 5)) (.lit (.bool true)) [8])) .nil))))) .nil))))))))⟩
def d12 : DD := ⟨"_law_place", top 19, ["_law_cell_here", "_law_k", "_law_n", "_law_mode", "_law_bits", "_law_many", "_law_goals", "_law_weights_here", "_law_j"], 4, c12⟩
/-- _law_board: _law_script _law_at _law_n _law_mode _law_board_here _law_lone _law_near _law_k _law_pairs -/
def c13 : Fn := ⟨9, (.cons (.set 2 (.bin .add (.lit (.int 1)) (.bin .mod (.call 9 (.cons (.var 0) (.cons (.var 1) .nil))) (.lit (.int 7))))) (.cons (.ite (.cmp .eq (.bin .mod (.bin .fdiv (.call 9 (.cons (.var 0) (.cons (.var 1) .nil))) (.lit (.int 7))) (.lit (.int 6))) (.lit (.int 5))) (.cons (.set 2 (.bin .add (.lit (.int 1)) (.bin .mod (.bin .fdiv (.call 9 (.cons (.var 0) (.cons (.var 1) .nil))) (.lit (.int 42))) (.lit (.int 24))))) .nil) .nil) (.cons (.set 3 (.bin .mod (.bin .fdiv (.call 9 (.cons (.var 0) (.cons (.lit (.int 2)) .nil))) (.bin .add (.lit (.int 1)) (.var 1))) (.lit (.int 2)))) (.cons (.own 4 (.comp (.call 12 (.cons (.bin .add (.bin .mul (.call 9 (.cons (.var 0) (.cons (.bin .add (.bin .add (.lit (.int 4)) (.var 7)) (.bin .mul (.lit (.int 20)) (.var 1))) .nil))) (.bin .add (.bin .mul (.var 7) (.var 7)) (.lit (.int 5)))) (.var 7)) (.cons (.var 7) (.cons (.var 2) (.cons (.var 3) .nil))))) (.name 7) (.range1 (.var 2)) (.lit (.bool true)) [7])) (.cons (.ite (.cmp .eq (.bin .mod (.bin .fdiv (.call 9 (.cons (.var 0) (.cons (.lit (.int 2)) .nil))) (.lit (.int 4))) (.lit (.int 8))) (.lit (.int 7))) (.cons (.set 5 (.bin .mod (.bin .fdiv (.call 9 (.cons (.var 0) (.cons (.lit (.int 3)) .nil))) (.bin .add (.lit (.int 1)) (.var 1))) (.var 2))) (.cons (.set 4 (.bin .add (.fr (.comp (.tuple (.cons (.lit (.str ("throw" : Str))) (.cons (.tuple (.cons (.bi .int (.cons (.cmp .eq (.var 7) (.var 5)) .nil)) (.cons (.lit (.int 1)) .nil))) (.cons (.fr (.list (.cons (.tuple (.cons (.bin .add (.lit (.int 1)) (.bin .mod (.var 7) (.lit (.int 3)))) (.cons (.bin .add (.var 7) (.lit (.int 1))) .nil))) .nil))) .nil)))) (.name 7) (.range1 (.bin .sub (.var 2) (.lit (.int 1)))) (.lit (.bool true)) [7])) (.fr (.list (.cons (.tuple (.cons (.lit (.str ("end" : Str))) (.cons (.tuple (.cons (.lit (.int 1)) (.cons (.lit (.int 1)) .nil))) .nil))) .nil))))) .nil)) .nil) (.cons (.ite (.and (.cmp .eq (.bin .mod (.bin .fdiv (.call 9 (.cons (.var 0) (.cons (.lit (.int 2)) .nil))) (.lit (.int 32))) (.lit (.int 8))) (.lit (.int 7))) (.cmp .gt (.var 2) (.lit (.int 3)))) (.cons (.own 6 (.comp (.fr (.list (.cons (.tuple (.cons (.lit (.int 1)) (.cons (.bin .sub (.var 2) (.lit (.int 2))) .nil))) (.cons (.tuple (.cons (.bin .add (.lit (.int 999998)) (.var 7)) (.cons (.bin .sub (.var 2) (.lit (.int 1))) .nil))) .nil)))) (.name 7) (.range1 (.lit (.int 2))) (.lit (.bool true)) [7])) (.cons (.set 4 (.bin .add (.bin .add (.slice (.var 4) (.lit .none) (.bin .sub (.var 2) (.lit (.int 4)))) (.fr (.comp (.tuple (.cons (.lit (.str ("throw" : Str))) (.cons (.tuple (.cons (.lit (.int 0)) (.cons (.lit (.int 1)) .nil))) (.cons (.var 8) .nil)))) (.name 8) (.seq (.var 6)) (.lit (.bool true)) [8]))) (.fr (.list (.cons (.tuple (.cons (.lit (.str ("end" : Str))) (.cons (.tuple (.cons (.lit (.int 0)) (.cons (.lit (.int 1)) .nil))) .nil))) (.cons (.tuple (.cons (.lit (.str ("end" : Str))) (.cons (.tuple (.cons (.lit (.int 1)) (.cons (.lit (.int 1)) .nil))) .nil))) .nil)))))) .nil)) .nil) (.cons (.ret (.var 4)) .nil)))))))⟩
def d13 : DD := ⟨"_law_board", top 20, ["_law_script", "_law_at", "_law_n", "_law_mode", "_law_board_here", "_law_lone", "_law_near", "_law_k", "_law_pairs"], 2, c13⟩
/-- _law_behind: _law_place_here _law_by _law_goal_here _law_weight -/
def c14 : Fn := ⟨4, (.cons (.ite (.cmp .eq (.idx (.var 0) (.lit (.int 0))) (.lit (.str ("end" : Str)))) (.cons (.ret (.var 0)) .nil) .nil) (.cons (.ite (.cmp .eq (.idx (.var 0) (.lit (.int 0))) (.lit (.str ("pick" : Str)))) (.cons (.ret (.tuple (.cons (.lit (.str ("pick" : Str))) (.cons (.idx (.var 0) (.lit (.int 1))) (.cons (.fr (.comp (.bin .add (.var 2) (.var 1)) (.name 2) (.seq (.idx (.var 0) (.lit (.int 2)))) (.lit (.bool true)) [2])) .nil))))) .nil) .nil) (.cons (.ret (.tuple (.cons (.lit (.str ("throw" : Str))) (.cons (.idx (.var 0) (.lit (.int 1))) (.cons (.fr (.comp (.tuple (.cons (.var 3) (.cons (.bin .add (.var 2) (.var 1)) .nil))) (.tup [3, 2]) (.seq (.idx (.var 0) (.lit (.int 2)))) (.lit (.bool true)) [3, 2])) .nil))))) .nil)))⟩
def d14 : DD := ⟨"_law_behind", top 21, ["_law_place_here", "_law_by", "_law_goal_here", "_law_weight"], 2, c14⟩
/-- _law_weights: _law_place_here _law_numbers _law_sums _law_goal_here _law_weight -/
def c15 : Fn := ⟨5, (.cons (.own 2 .dict0) (.cons (.ite (.cmp .eq (.idx (.var 0) (.lit (.int 0))) (.lit (.str ("pick" : Str)))) (.cons (.for_ (.name 3) (.seq (.idx (.var 0) (.lit (.int 2)))) (.cons (.put 2 (.idx (.var 1) (.var 3)) (.lit (.int 1))) .nil)) .nil) .nil) (.cons (.ite (.cmp .eq (.idx (.var 0) (.lit (.int 0))) (.lit (.str ("throw" : Str)))) (.cons (.for_ (.tup [4, 3]) (.seq (.idx (.var 0) (.lit (.int 2)))) (.cons (.put 2 (.idx (.var 1) (.var 3)) (.bin .add (.get2 (.var 2) (.idx (.var 1) (.var 3)) (.lit (.int 0))) (.var 4))) .nil)) .nil) .nil) (.cons (.ret (.var 2)) .nil))))⟩
def d15 : DD := ⟨"_law_weights", top 22, ["_law_place_here", "_law_numbers", "_law_sums", "_law_goal_here", "_law_weight"], 2, c15⟩
/-- _law_as_one: _law_place_here _law_mate _law_numbers _law_some _law_others _law_whole _law_total _law_number -/
def c16 : Fn := ⟨8, (.cons (.set 3 (.call 15 (.cons (.var 0) (.cons (.var 2) .nil)))) (.cons (.set 4 (.call 15 (.cons (.var 1) (.cons (.var 2) .nil)))) (.cons (.ite (.cmp .ne (.bi .sorted (.cons (.var 3) .nil)) (.bi .sorted (.cons (.var 4) .nil))) (.cons (.ret (.lit (.bool false))) .nil) .nil) (.cons (.set 5 (.bi .sum (.cons (.fr (.comp (.idx (.var 3) (.var 7)) (.name 7) (.keys (.var 3)) (.lit (.bool true)) [7])) .nil))) (.cons (.set 6 (.bi .sum (.cons (.fr (.comp (.idx (.var 4) (.var 7)) (.name 7) (.keys (.var 4)) (.lit (.bool true)) [7])) .nil))) (.cons (.ret (.cmp .eq (.bi .len (.cons (.fr (.comp (.var 7) (.name 7) (.keys (.var 3)) (.cmp .ne (.bin .mul (.idx (.var 3) (.var 7)) (.var 6)) (.bin .mul (.idx (.var 4) (.var 7)) (.var 5))) [7])) .nil)) (.lit (.int 0)))) .nil))))))⟩
def d16 : DD := ⟨"_law_as_one", top 23, ["_law_place_here", "_law_mate", "_law_numbers", "_law_some", "_law_others", "_law_whole", "_law_total", "_law_number"], 3, c16⟩
/-- _law_next: _law_places _law_numbers _law_met _law_due _law_at _law_mates _law_k -/
def c17 : Fn := ⟨7, (.cons (.own 2 (.list .nil)) (.cons (.own 3 (.list .nil)) (.cons (.for_ (.name 4) (.range1 (.bi .len (.cons (.var 0) .nil))) (.cons (.own 5 (.comp (.var 6) (.name 6) (.seq (.var 2)) (.and (.cmp .eq (.idx (.var 1) (.var 6)) (.idx (.var 1) (.var 4))) (.call 16 (.cons (.idx (.var 0) (.var 6)) (.cons (.idx (.var 0) (.var 4)) (.cons (.var 1) .nil))))) [6])) (.cons (.ite (.cmp .eq (.var 5) (.fr (.list .nil))) (.cons (.append 2 (.var 4)) (.cons (.own 5 (.list (.cons (.var 4) .nil))) .nil)) .nil) (.cons (.append 3 (.mt .index (.var 2) (.cons (.idx (.var 5) (.lit (.int 0))) .nil))) .nil)))) (.cons (.ret (.var 3)) .nil))))⟩
def d17 : DD := ⟨"_law_next", top 24, ["_law_places", "_law_numbers", "_law_met", "_law_due", "_law_at", "_law_mates", "_law_k"], 2, c17⟩
/-- law: _law_script _law_one _law_other _law_found _law_places _law_row _law_k _law_due _law_more _law_place_here -/
def c18 : Fn := ⟨10, (.cons (.set 1 (.call 13 (.cons (.var 0) (.cons (.lit (.int 0)) .nil)))) (.cons (.set 2 (.call 13 (.cons (.var 0) (.cons (.lit (.int 1)) .nil)))) (.cons (.set 3 (.call 8 (.cons (.fr (.listOf (.var 1))) (.cons (.fr (.listOf (.var 2))) .nil)))) (.cons (.ite (.or (.not (.bi .isList (.cons (.var 3) .nil))) (.cmp .eq (.bi .len (.cons (.var 3) .nil)) (.lit (.int 0)))) (.cons (.ret (.lit (.bool false))) .nil) .nil) (.cons (.set 4 (.bin .add (.var 1) (.fr (.comp (.call 14 (.cons (.var 9) (.cons (.bi .len (.cons (.var 1) .nil)) .nil))) (.name 9) (.seq (.var 2)) (.lit (.bool true)) [9])))) (.cons (.for_ (.name 5) (.seq (.var 3)) (.cons (.ite (.or (.not (.bi .isList (.cons (.var 5) .nil))) (.cmp .ne (.bi .len (.cons (.var 5) .nil)) (.bi .len (.cons (.var 4) .nil)))) (.cons (.ret (.lit (.bool false))) .nil) .nil) .nil)) (.cons (.for_ (.name 6) (.range1 (.bi .len (.cons (.var 3) .nil))) (.cons (.set 7 (.call 17 (.cons (.var 4) (.cons (.idx (.var 3) (.var 6)) .nil)))) (.cons (.set 8 (.cmp .gt (.bi .lenSet (.cons (.var 7) .nil)) (.bi .lenSet (.cons (.idx (.var 3) (.var 6)) .nil)))) (.cons (.ite (.cmp .lt (.bin .add (.var 6) (.lit (.int 1))) (.bi .len (.cons (.var 3) .nil))) (.cons (.ite (.or (.not (.var 8)) (.cmp .ne (.idx (.var 3) (.bin .add (.var 6) (.lit (.int 1)))) (.var 7))) (.cons (.ret (.lit (.bool false))) .nil) .nil) .nil) (.cons (.ite (.var 8) (.cons (.ret (.lit (.bool false))) .nil) .nil) .nil)) .nil)))) (.cons (.ret (.lit (.bool true))) .nil))))))))⟩
def d18 : DD := ⟨"law", top 25, ["_law_script", "_law_one", "_law_other", "_law_found", "_law_places", "_law_row", "_law_k", "_law_due", "_law_more", "_law_place_here"], 1, c18⟩
def consts : List (PySem.Str × Const) := []
abbrev l0 : List DD := []
abbrev l1 : List DD := d0 :: l0
abbrev l2 : List DD := d1 :: l1
abbrev l3 : List DD := d2 :: l2
abbrev l4 : List DD := d3 :: l3
abbrev l5 : List DD := d4 :: l4
abbrev l6 : List DD := d5 :: l5
abbrev l7 : List DD := d6 :: l6
abbrev l8 : List DD := d7 :: l7
abbrev l9 : List DD := d8 :: l8
abbrev l10 : List DD := d9 :: l9
abbrev l11 : List DD := d10 :: l10
abbrev l12 : List DD := d11 :: l11
abbrev l13 : List DD := d12 :: l12
abbrev l14 : List DD := d13 :: l13
abbrev l15 : List DD := d14 :: l14
abbrev l16 : List DD := d15 :: l15
abbrev l17 : List DD := d16 :: l16
abbrev l18 : List DD := d17 :: l17
theorem k0 : chkF consts (l0.reverse.map DD.sig) d0.N d0.n (defScope d0.st) (defBody d0.st) d0.fn = true := by decide +kernel
theorem s0 : FnScope d0.N (d0.N.take d0.n) (defScope d0.st) := ⟨rfl, rfl, rfl, by decide +kernel, rfl, by decide +kernel, by decide +kernel⟩
theorem b0 {K : PySem.W.Frag} {f : Addr} {fd : FuncData} (F : FunD K d0.name d0.name (defArgs d0.st) (defBody d0.st) (defScope d0.st) [] [] f fd) : Binds K fd (d0.N.take d0.n) [] :=
  F.bindsN fun _ _ _ _ _ _ us hl => match us, hl with | [_], _ => rfl
theorem k1 : chkF consts (l1.reverse.map DD.sig) d1.N d1.n (defScope d1.st) (defBody d1.st) d1.fn = true := by decide +kernel
theorem s1 : FnScope d1.N (d1.N.take d1.n) (defScope d1.st) := ⟨rfl, rfl, rfl, by decide +kernel, rfl, by decide +kernel, by decide +kernel⟩
theorem b1 {K : PySem.W.Frag} {f : Addr} {fd : FuncData} (F : FunD K d1.name d1.name (defArgs d1.st) (defBody d1.st) (defScope d1.st) [] [] f fd) : Binds K fd (d1.N.take d1.n) [] :=
  F.bindsN fun _ _ _ _ _ _ us hl => match us, hl with | [_, _], _ => rfl
theorem k2 : chkF consts (l2.reverse.map DD.sig) d2.N d2.n (defScope d2.st) (defBody d2.st) d2.fn = true := by decide +kernel
theorem s2 : FnScope d2.N (d2.N.take d2.n) (defScope d2.st) := ⟨rfl, rfl, rfl, by decide +kernel, rfl, by decide +kernel, by decide +kernel⟩
theorem b2 {K : PySem.W.Frag} {f : Addr} {fd : FuncData} (F : FunD K d2.name d2.name (defArgs d2.st) (defBody d2.st) (defScope d2.st) [] [] f fd) : Binds K fd (d2.N.take d2.n) [] :=
  F.bindsN fun _ _ _ _ _ _ us hl => match us, hl with | [_, _], _ => rfl
theorem k3 : chkF consts (l3.reverse.map DD.sig) d3.N d3.n (defScope d3.st) (defBody d3.st) d3.fn = true := by decide +kernel
theorem s3 : FnScope d3.N (d3.N.take d3.n) (defScope d3.st) := ⟨rfl, rfl, rfl, by decide +kernel, rfl, by decide +kernel, by decide +kernel⟩
theorem b3 {K : PySem.W.Frag} {f : Addr} {fd : FuncData} (F : FunD K d3.name d3.name (defArgs d3.st) (defBody d3.st) (defScope d3.st) [] [] f fd) : Binds K fd (d3.N.take d3.n) [] :=
  F.bindsN fun _ _ _ _ _ _ us hl => match us, hl with | [_], _ => rfl
theorem k4 : chkF consts (l4.reverse.map DD.sig) d4.N d4.n (defScope d4.st) (defBody d4.st) d4.fn = true := by decide +kernel
theorem s4 : FnScope d4.N (d4.N.take d4.n) (defScope d4.st) := ⟨rfl, rfl, rfl, by decide +kernel, rfl, by decide +kernel, by decide +kernel⟩
theorem b4 {K : PySem.W.Frag} {f : Addr} {fd : FuncData} (F : FunD K d4.name d4.name (defArgs d4.st) (defBody d4.st) (defScope d4.st) [] [] f fd) : Binds K fd (d4.N.take d4.n) [] :=
  F.bindsN fun _ _ _ _ _ _ us hl => match us, hl with | [_, _], _ => rfl
theorem k5 : chkF consts (l5.reverse.map DD.sig) d5.N d5.n (defScope d5.st) (defBody d5.st) d5.fn = true := by decide +kernel
theorem s5 : FnScope d5.N (d5.N.take d5.n) (defScope d5.st) := ⟨rfl, rfl, rfl, by decide +kernel, rfl, by decide +kernel, by decide +kernel⟩
theorem b5 {K : PySem.W.Frag} {f : Addr} {fd : FuncData} (F : FunD K d5.name d5.name (defArgs d5.st) (defBody d5.st) (defScope d5.st) [] [] f fd) : Binds K fd (d5.N.take d5.n) [] :=
  F.bindsN fun _ _ _ _ _ _ us hl => match us, hl with | [_, _, _], _ => rfl
theorem k6 : chkF consts (l6.reverse.map DD.sig) d6.N d6.n (defScope d6.st) (defBody d6.st) d6.fn = true := by decide +kernel
theorem s6 : FnScope d6.N (d6.N.take d6.n) (defScope d6.st) := ⟨rfl, rfl, rfl, by decide +kernel, rfl, by decide +kernel, by decide +kernel⟩
theorem b6 {K : PySem.W.Frag} {f : Addr} {fd : FuncData} (F : FunD K d6.name d6.name (defArgs d6.st) (defBody d6.st) (defScope d6.st) [] [] f fd) : Binds K fd (d6.N.take d6.n) [] :=
  F.bindsN fun _ _ _ _ _ _ us hl => match us, hl with | [_, _], _ => rfl
theorem k7 : chkF consts (l7.reverse.map DD.sig) d7.N d7.n (defScope d7.st) (defBody d7.st) d7.fn = true := by decide +kernel
theorem s7 : FnScope d7.N (d7.N.take d7.n) (defScope d7.st) := ⟨rfl, rfl, rfl, by decide +kernel, rfl, by decide +kernel, by decide +kernel⟩
theorem b7 {K : PySem.W.Frag} {f : Addr} {fd : FuncData} (F : FunD K d7.name d7.name (defArgs d7.st) (defBody d7.st) (defScope d7.st) [] [] f fd) : Binds K fd (d7.N.take d7.n) [] :=
  F.bindsN fun _ _ _ _ _ _ us hl => match us, hl with | [_, _], _ => rfl
theorem k8 : chkF consts (l8.reverse.map DD.sig) d8.N d8.n (defScope d8.st) (defBody d8.st) d8.fn = true := by decide +kernel
theorem s8 : FnScope d8.N (d8.N.take d8.n) (defScope d8.st) := ⟨rfl, rfl, rfl, by decide +kernel, rfl, by decide +kernel, by decide +kernel⟩
theorem b8 {K : PySem.W.Frag} {f : Addr} {fd : FuncData} (F : FunD K d8.name d8.name (defArgs d8.st) (defBody d8.st) (defScope d8.st) [] [] f fd) : Binds K fd (d8.N.take d8.n) [] :=
  F.bindsN fun _ _ _ _ _ _ us hl => match us, hl with | [_, _], _ => rfl
theorem k9 : chkF consts (l9.reverse.map DD.sig) d9.N d9.n (defScope d9.st) (defBody d9.st) d9.fn = true := by decide +kernel
theorem s9 : FnScope d9.N (d9.N.take d9.n) (defScope d9.st) := ⟨rfl, rfl, rfl, by decide +kernel, rfl, by decide +kernel, by decide +kernel⟩
theorem b9 {K : PySem.W.Frag} {f : Addr} {fd : FuncData} (F : FunD K d9.name d9.name (defArgs d9.st) (defBody d9.st) (defScope d9.st) [] [] f fd) : Binds K fd (d9.N.take d9.n) [] :=
  F.bindsN fun _ _ _ _ _ _ us hl => match us, hl with | [_, _], _ => rfl
theorem k10 : chkF consts (l10.reverse.map DD.sig) d10.N d10.n (defScope d10.st) (defBody d10.st) d10.fn = true := by decide +kernel
theorem s10 : FnScope d10.N (d10.N.take d10.n) (defScope d10.st) := ⟨rfl, rfl, rfl, by decide +kernel, rfl, by decide +kernel, by decide +kernel⟩
theorem b10 {K : PySem.W.Frag} {f : Addr} {fd : FuncData} (F : FunD K d10.name d10.name (defArgs d10.st) (defBody d10.st) (defScope d10.st) [] [] f fd) : Binds K fd (d10.N.take d10.n) [] :=
  F.bindsN fun _ _ _ _ _ _ us hl => match us, hl with | [_, _], _ => rfl
theorem k11 : chkF consts (l11.reverse.map DD.sig) d11.N d11.n (defScope d11.st) (defBody d11.st) d11.fn = true := by decide +kernel
theorem s11 : FnScope d11.N (d11.N.take d11.n) (defScope d11.st) := ⟨rfl, rfl, rfl, by decide +kernel, rfl, by decide +kernel, by decide +kernel⟩
theorem b11 {K : PySem.W.Frag} {f : Addr} {fd : FuncData} (F : FunD K d11.name d11.name (defArgs d11.st) (defBody d11.st) (defScope d11.st) [] [] f fd) : Binds K fd (d11.N.take d11.n) [] :=
  F.bindsN fun _ _ _ _ _ _ us hl => match us, hl with | [_, _, _, _], _ => rfl
theorem k12 : chkF consts (l12.reverse.map DD.sig) d12.N d12.n (defScope d12.st) (defBody d12.st) d12.fn = true := by decide +kernel
theorem s12 : FnScope d12.N (d12.N.take d12.n) (defScope d12.st) := ⟨rfl, rfl, rfl, by decide +kernel, rfl, by decide +kernel, by decide +kernel⟩
theorem b12 {K : PySem.W.Frag} {f : Addr} {fd : FuncData} (F : FunD K d12.name d12.name (defArgs d12.st) (defBody d12.st) (defScope d12.st) [] [] f fd) : Binds K fd (d12.N.take d12.n) [] :=
  F.bindsN fun _ _ _ _ _ _ us hl => match us, hl with | [_, _, _, _], _ => rfl
theorem k13 : chkF consts (l13.reverse.map DD.sig) d13.N d13.n (defScope d13.st) (defBody d13.st) d13.fn = true := by decide +kernel
theorem s13 : FnScope d13.N (d13.N.take d13.n) (defScope d13.st) := ⟨rfl, rfl, rfl, by decide +kernel, rfl, by decide +kernel, by decide +kernel⟩
theorem b13 {K : PySem.W.Frag} {f : Addr} {fd : FuncData} (F : FunD K d13.name d13.name (defArgs d13.st) (defBody d13.st) (defScope d13.st) [] [] f fd) : Binds K fd (d13.N.take d13.n) [] :=
  F.bindsN fun _ _ _ _ _ _ us hl => match us, hl with | [_, _], _ => rfl
theorem k14 : chkF consts (l14.reverse.map DD.sig) d14.N d14.n (defScope d14.st) (defBody d14.st) d14.fn = true := by decide +kernel
theorem s14 : FnScope d14.N (d14.N.take d14.n) (defScope d14.st) := ⟨rfl, rfl, rfl, by decide +kernel, rfl, by decide +kernel, by decide +kernel⟩
theorem b14 {K : PySem.W.Frag} {f : Addr} {fd : FuncData} (F : FunD K d14.name d14.name (defArgs d14.st) (defBody d14.st) (defScope d14.st) [] [] f fd) : Binds K fd (d14.N.take d14.n) [] :=
  F.bindsN fun _ _ _ _ _ _ us hl => match us, hl with | [_, _], _ => rfl
theorem k15 : chkF consts (l15.reverse.map DD.sig) d15.N d15.n (defScope d15.st) (defBody d15.st) d15.fn = true := by decide +kernel
theorem s15 : FnScope d15.N (d15.N.take d15.n) (defScope d15.st) := ⟨rfl, rfl, rfl, by decide +kernel, rfl, by decide +kernel, by decide +kernel⟩
theorem b15 {K : PySem.W.Frag} {f : Addr} {fd : FuncData} (F : FunD K d15.name d15.name (defArgs d15.st) (defBody d15.st) (defScope d15.st) [] [] f fd) : Binds K fd (d15.N.take d15.n) [] :=
  F.bindsN fun _ _ _ _ _ _ us hl => match us, hl with | [_, _], _ => rfl
theorem k16 : chkF consts (l16.reverse.map DD.sig) d16.N d16.n (defScope d16.st) (defBody d16.st) d16.fn = true := by decide +kernel
theorem s16 : FnScope d16.N (d16.N.take d16.n) (defScope d16.st) := ⟨rfl, rfl, rfl, by decide +kernel, rfl, by decide +kernel, by decide +kernel⟩
theorem b16 {K : PySem.W.Frag} {f : Addr} {fd : FuncData} (F : FunD K d16.name d16.name (defArgs d16.st) (defBody d16.st) (defScope d16.st) [] [] f fd) : Binds K fd (d16.N.take d16.n) [] :=
  F.bindsN fun _ _ _ _ _ _ us hl => match us, hl with | [_, _, _], _ => rfl
theorem k17 : chkF consts (l17.reverse.map DD.sig) d17.N d17.n (defScope d17.st) (defBody d17.st) d17.fn = true := by decide +kernel
theorem s17 : FnScope d17.N (d17.N.take d17.n) (defScope d17.st) := ⟨rfl, rfl, rfl, by decide +kernel, rfl, by decide +kernel, by decide +kernel⟩
theorem b17 {K : PySem.W.Frag} {f : Addr} {fd : FuncData} (F : FunD K d17.name d17.name (defArgs d17.st) (defBody d17.st) (defScope d17.st) [] [] f fd) : Binds K fd (d17.N.take d17.n) [] :=
  F.bindsN fun _ _ _ _ _ _ us hl => match us, hl with | [_, _], _ => rfl
theorem k18 : chkF consts (l18.reverse.map DD.sig) d18.N d18.n (defScope d18.st) (defBody d18.st) d18.fn = true := by decide +kernel
theorem s18 : FnScope d18.N (d18.N.take d18.n) (defScope d18.st) := ⟨rfl, rfl, rfl, by decide +kernel, rfl, by decide +kernel, by decide +kernel⟩
theorem b18 {K : PySem.W.Frag} {f : Addr} {fd : FuncData} (F : FunD K d18.name d18.name (defArgs d18.st) (defBody d18.st) (defScope d18.st) [] [] f fd) : Binds K fd (d18.N.take d18.n) [] :=
  F.bindsN fun _ _ _ _ _ _ us hl => match us, hl with | [_], _ => rfl
def h0 : He.DefD := ⟨("goals_of", none), "goals_of", "goals_of", defArgs d0.st, defBody d0.st, defScope d0.st, [], []⟩
def h1 : He.DefD := ⟨("divisor_of", none), "divisor_of", "divisor_of", defArgs d1.st, defBody d1.st, defScope d1.st, [], []⟩
def h2 : He.DefD := ⟨("share", none), "share", "share", defArgs d2.st, defBody d2.st, defScope d2.st, [], []⟩
def h3 : He.DefD := ⟨("numbered", none), "numbered", "numbered", defArgs d3.st, defBody d3.st, defScope d3.st, [], []⟩
def h4 : He.DefD := ⟨("shares_by", none), "shares_by", "shares_by", defArgs d4.st, defBody d4.st, defScope d4.st, [], []⟩
def h5 : He.DefD := ⟨("mark_of", none), "mark_of", "mark_of", defArgs d5.st, defBody d5.st, defScope d5.st, [], []⟩
def h6 : He.DefD := ⟨("next_round", none), "next_round", "next_round", defArgs d6.st, defBody d6.st, defScope d6.st, [], []⟩
def h7 : He.DefD := ⟨("shifted", none), "shifted", "shifted", defArgs d7.st, defBody d7.st, defScope d7.st, [], []⟩
def h8 : He.DefD := ⟨("rounds", none), "rounds", "rounds", defArgs d8.st, defBody d8.st, defScope d8.st, [], []⟩
def h9 : He.DefD := ⟨("_law_cell", none), "_law_cell", "_law_cell", defArgs d9.st, defBody d9.st, defScope d9.st, [], []⟩
def h10 : He.DefD := ⟨("_law_mixed", none), "_law_mixed", "_law_mixed", defArgs d10.st, defBody d10.st, defScope d10.st, [], []⟩
def h11 : He.DefD := ⟨("_law_goal", none), "_law_goal", "_law_goal", defArgs d11.st, defBody d11.st, defScope d11.st, [], []⟩
def h12 : He.DefD := ⟨("_law_place", none), "_law_place", "_law_place", defArgs d12.st, defBody d12.st, defScope d12.st, [], []⟩
def h13 : He.DefD := ⟨("_law_board", none), "_law_board", "_law_board", defArgs d13.st, defBody d13.st, defScope d13.st, [], []⟩
def h14 : He.DefD := ⟨("_law_behind", none), "_law_behind", "_law_behind", defArgs d14.st, defBody d14.st, defScope d14.st, [], []⟩
def h15 : He.DefD := ⟨("_law_weights", none), "_law_weights", "_law_weights", defArgs d15.st, defBody d15.st, defScope d15.st, [], []⟩
def h16 : He.DefD := ⟨("_law_as_one", none), "_law_as_one", "_law_as_one", defArgs d16.st, defBody d16.st, defScope d16.st, [], []⟩
def h17 : He.DefD := ⟨("_law_next", none), "_law_next", "_law_next", defArgs d17.st, defBody d17.st, defScope d17.st, [], []⟩
def h18 : He.DefD := ⟨("law", none), "law", "law", defArgs d18.st, defBody d18.st, defScope d18.st, [], []⟩
def fn : List He.DefD := [h0, h1, h2, h3, h4, h5, h6, h7, h8, h9, h10, h11, h12, h13, h14, h15, h16, h17, h18]
def fa : List He.Fa := [.glo "goals_of", .glo "divisor_of", .glo "share", .glo "numbered", .glo "shares_by", .glo "mark_of", .glo "next_round", .glo "shifted", .glo "rounds", .glo "_law_cell", .glo "_law_mixed", .glo "_law_goal", .glo "_law_place", .glo "_law_board", .glo "_law_behind", .glo "_law_weights", .glo "_law_as_one", .glo "_law_next", .glo "law", .free "len", .free "abs", .free "int", .free "str", .free "sum", .free "max", .free "min", .free "sorted", .free "tuple", .free "all", .free "isinstance", .free "bool", .free "list", .free "set", .free "range", .free "enumerate", .free "zip", .free "reversed"]
def loose : List PySem.Str := ["goals_of", "LuckError", "NoShare", "divisor_of", "share", "numbered", "shares_by", "mark_of", "next_round", "shifted", "rounds", "_law_cell", "_law_mixed", "_law_goal", "_law_place", "_law_board", "_law_behind", "_law_weights", "_law_as_one", "_law_next"]
abbrev Rr : PySem.W.OpenRow := PySem.W.OpenLaw.row PySem.Challenge.rw_pressluck_k71_round_by_round
abbrev hk : PySem.W.Hook := He.hookD 4 fa fn
def ob (s : PySem.W.SharedT) : He.AlD := He.obsDG 4 fa fn (HandSHeadRun.getT s)
theorem ob_eq (s : PySem.W.SharedT) : ob s = hk.obs s.abs := He.obsDG_eq (HandSHeadRun.getT_eq s)
set_option maxHeartbeats 0 in
theorem run (w : World) : HandSHeadRun.RunEq Rr (PySem.W.view Rr.prog [25]) hk ob 4000 loose w := by
  intro os
  kernel_rfl
section
variable {P : Program} {w : World} {K : PySem.W.Frag} {h : Heap} {mg : PySem.Str → Option Value}
theorem blt (X : K.In h) (G : h.Ns mainGlobals mg) (c : He.SaysD fa fn K) : ∀ x ∈ blts, mg x = none := by
  unfold blts
  refine List.forall_mem_cons.mpr ⟨He.free_ok X G (c.fact 19 (f := .free "len") rfl), ?_⟩
  refine List.forall_mem_cons.mpr ⟨He.free_ok X G (c.fact 20 (f := .free "abs") rfl), ?_⟩
  refine List.forall_mem_cons.mpr ⟨He.free_ok X G (c.fact 21 (f := .free "int") rfl), ?_⟩
  refine List.forall_mem_cons.mpr ⟨He.free_ok X G (c.fact 22 (f := .free "str") rfl), ?_⟩
  refine List.forall_mem_cons.mpr ⟨He.free_ok X G (c.fact 23 (f := .free "sum") rfl), ?_⟩
  refine List.forall_mem_cons.mpr ⟨He.free_ok X G (c.fact 24 (f := .free "max") rfl), ?_⟩
  refine List.forall_mem_cons.mpr ⟨He.free_ok X G (c.fact 25 (f := .free "min") rfl), ?_⟩
  refine List.forall_mem_cons.mpr ⟨He.free_ok X G (c.fact 26 (f := .free "sorted") rfl), ?_⟩
  refine List.forall_mem_cons.mpr ⟨He.free_ok X G (c.fact 27 (f := .free "tuple") rfl), ?_⟩
  refine List.forall_mem_cons.mpr ⟨He.free_ok X G (c.fact 28 (f := .free "all") rfl), ?_⟩
  refine List.forall_mem_cons.mpr ⟨He.free_ok X G (c.fact 29 (f := .free "isinstance") rfl), ?_⟩
  refine List.forall_mem_cons.mpr ⟨He.free_ok X G (c.fact 30 (f := .free "bool") rfl), ?_⟩
  refine List.forall_mem_cons.mpr ⟨He.free_ok X G (c.fact 31 (f := .free "list") rfl), ?_⟩
  refine List.forall_mem_cons.mpr ⟨He.free_ok X G (c.fact 32 (f := .free "set") rfl), ?_⟩
  refine List.forall_mem_cons.mpr ⟨He.free_ok X G (c.fact 33 (f := .free "range") rfl), ?_⟩
  refine List.forall_mem_cons.mpr ⟨He.free_ok X G (c.fact 34 (f := .free "enumerate") rfl), ?_⟩
  refine List.forall_mem_cons.mpr ⟨He.free_ok X G (c.fact 35 (f := .free "zip") rfl), ?_⟩
  refine List.forall_mem_cons.mpr ⟨He.free_ok X G (c.fact 36 (f := .free "reversed") rfl), ?_⟩
  exact fun x hx => nomatch hx
theorem con (X : K.In h) (G : h.Ns mainGlobals mg) (c : He.SaysD fa fn K) : ∀ x c, consts.lookup x = some c → ∃ u v, mg x = some u ∧ RelV v u ∧ constV c = some v := by
  intro x c hx
  cases hx
theorem t0 (X : K.In h) (G : h.Ns mainGlobals mg) (c : He.SaysD fa fn K) : Tab consts K mg (d0 :: l0) := by
  obtain ⟨fd, F⟩ := c.def_ 0 (d := h0) rfl
  exact .cons .nil k0 s0 ⟨_, fd, F, He.glo_ok X G (c.fact 0 (f := .glo "goals_of") rfl), b0 F⟩
theorem t1 (X : K.In h) (G : h.Ns mainGlobals mg) (c : He.SaysD fa fn K) : Tab consts K mg (d1 :: l1) := by
  obtain ⟨fd, F⟩ := c.def_ 1 (d := h1) rfl
  exact .cons (t0 X G c) k1 s1 ⟨_, fd, F, He.glo_ok X G (c.fact 1 (f := .glo "divisor_of") rfl), b1 F⟩
theorem t2 (X : K.In h) (G : h.Ns mainGlobals mg) (c : He.SaysD fa fn K) : Tab consts K mg (d2 :: l2) := by
  obtain ⟨fd, F⟩ := c.def_ 2 (d := h2) rfl
  exact .cons (t1 X G c) k2 s2 ⟨_, fd, F, He.glo_ok X G (c.fact 2 (f := .glo "share") rfl), b2 F⟩
theorem t3 (X : K.In h) (G : h.Ns mainGlobals mg) (c : He.SaysD fa fn K) : Tab consts K mg (d3 :: l3) := by
  obtain ⟨fd, F⟩ := c.def_ 3 (d := h3) rfl
  exact .cons (t2 X G c) k3 s3 ⟨_, fd, F, He.glo_ok X G (c.fact 3 (f := .glo "numbered") rfl), b3 F⟩
theorem t4 (X : K.In h) (G : h.Ns mainGlobals mg) (c : He.SaysD fa fn K) : Tab consts K mg (d4 :: l4) := by
  obtain ⟨fd, F⟩ := c.def_ 4 (d := h4) rfl
  exact .cons (t3 X G c) k4 s4 ⟨_, fd, F, He.glo_ok X G (c.fact 4 (f := .glo "shares_by") rfl), b4 F⟩
theorem t5 (X : K.In h) (G : h.Ns mainGlobals mg) (c : He.SaysD fa fn K) : Tab consts K mg (d5 :: l5) := by
  obtain ⟨fd, F⟩ := c.def_ 5 (d := h5) rfl
  exact .cons (t4 X G c) k5 s5 ⟨_, fd, F, He.glo_ok X G (c.fact 5 (f := .glo "mark_of") rfl), b5 F⟩
theorem t6 (X : K.In h) (G : h.Ns mainGlobals mg) (c : He.SaysD fa fn K) : Tab consts K mg (d6 :: l6) := by
  obtain ⟨fd, F⟩ := c.def_ 6 (d := h6) rfl
  exact .cons (t5 X G c) k6 s6 ⟨_, fd, F, He.glo_ok X G (c.fact 6 (f := .glo "next_round") rfl), b6 F⟩
theorem t7 (X : K.In h) (G : h.Ns mainGlobals mg) (c : He.SaysD fa fn K) : Tab consts K mg (d7 :: l7) := by
  obtain ⟨fd, F⟩ := c.def_ 7 (d := h7) rfl
  exact .cons (t6 X G c) k7 s7 ⟨_, fd, F, He.glo_ok X G (c.fact 7 (f := .glo "shifted") rfl), b7 F⟩
theorem t8 (X : K.In h) (G : h.Ns mainGlobals mg) (c : He.SaysD fa fn K) : Tab consts K mg (d8 :: l8) := by
  obtain ⟨fd, F⟩ := c.def_ 8 (d := h8) rfl
  exact .cons (t7 X G c) k8 s8 ⟨_, fd, F, He.glo_ok X G (c.fact 8 (f := .glo "rounds") rfl), b8 F⟩
theorem t9 (X : K.In h) (G : h.Ns mainGlobals mg) (c : He.SaysD fa fn K) : Tab consts K mg (d9 :: l9) := by
  obtain ⟨fd, F⟩ := c.def_ 9 (d := h9) rfl
  exact .cons (t8 X G c) k9 s9 ⟨_, fd, F, He.glo_ok X G (c.fact 9 (f := .glo "_law_cell") rfl), b9 F⟩
theorem t10 (X : K.In h) (G : h.Ns mainGlobals mg) (c : He.SaysD fa fn K) : Tab consts K mg (d10 :: l10) := by
  obtain ⟨fd, F⟩ := c.def_ 10 (d := h10) rfl
  exact .cons (t9 X G c) k10 s10 ⟨_, fd, F, He.glo_ok X G (c.fact 10 (f := .glo "_law_mixed") rfl), b10 F⟩
theorem t11 (X : K.In h) (G : h.Ns mainGlobals mg) (c : He.SaysD fa fn K) : Tab consts K mg (d11 :: l11) := by
  obtain ⟨fd, F⟩ := c.def_ 11 (d := h11) rfl
  exact .cons (t10 X G c) k11 s11 ⟨_, fd, F, He.glo_ok X G (c.fact 11 (f := .glo "_law_goal") rfl), b11 F⟩
theorem t12 (X : K.In h) (G : h.Ns mainGlobals mg) (c : He.SaysD fa fn K) : Tab consts K mg (d12 :: l12) := by
  obtain ⟨fd, F⟩ := c.def_ 12 (d := h12) rfl
  exact .cons (t11 X G c) k12 s12 ⟨_, fd, F, He.glo_ok X G (c.fact 12 (f := .glo "_law_place") rfl), b12 F⟩
theorem t13 (X : K.In h) (G : h.Ns mainGlobals mg) (c : He.SaysD fa fn K) : Tab consts K mg (d13 :: l13) := by
  obtain ⟨fd, F⟩ := c.def_ 13 (d := h13) rfl
  exact .cons (t12 X G c) k13 s13 ⟨_, fd, F, He.glo_ok X G (c.fact 13 (f := .glo "_law_board") rfl), b13 F⟩
theorem t14 (X : K.In h) (G : h.Ns mainGlobals mg) (c : He.SaysD fa fn K) : Tab consts K mg (d14 :: l14) := by
  obtain ⟨fd, F⟩ := c.def_ 14 (d := h14) rfl
  exact .cons (t13 X G c) k14 s14 ⟨_, fd, F, He.glo_ok X G (c.fact 14 (f := .glo "_law_behind") rfl), b14 F⟩
theorem t15 (X : K.In h) (G : h.Ns mainGlobals mg) (c : He.SaysD fa fn K) : Tab consts K mg (d15 :: l15) := by
  obtain ⟨fd, F⟩ := c.def_ 15 (d := h15) rfl
  exact .cons (t14 X G c) k15 s15 ⟨_, fd, F, He.glo_ok X G (c.fact 15 (f := .glo "_law_weights") rfl), b15 F⟩
theorem t16 (X : K.In h) (G : h.Ns mainGlobals mg) (c : He.SaysD fa fn K) : Tab consts K mg (d16 :: l16) := by
  obtain ⟨fd, F⟩ := c.def_ 16 (d := h16) rfl
  exact .cons (t15 X G c) k16 s16 ⟨_, fd, F, He.glo_ok X G (c.fact 16 (f := .glo "_law_as_one") rfl), b16 F⟩
theorem t17 (X : K.In h) (G : h.Ns mainGlobals mg) (c : He.SaysD fa fn K) : Tab consts K mg (d17 :: l17) := by
  obtain ⟨fd, F⟩ := c.def_ 17 (d := h17) rfl
  exact .cons (t16 X G c) k17 s17 ⟨_, fd, F, He.glo_ok X G (c.fact 17 (f := .glo "_law_next") rfl), b17 F⟩
theorem t18 (X : K.In h) (G : h.Ns mainGlobals mg) (c : He.SaysD fa fn K) : Tab consts K mg (d18 :: l18) := by
  obtain ⟨fd, F⟩ := c.def_ 18 (d := h18) rfl
  exact .cons (t17 X G c) k18 s18 ⟨_, fd, F, He.glo_ok X G (c.fact 18 (f := .glo "law") rfl), b18 F⟩
end
abbrev Φ : Fns := fns ((d18 :: l18).map (·.fn))
theorem plain (ns : List Int) (hl : ns.length ≤ 63) (hb : ∀ z ∈ ns, Builtin.Int.intBits z ≤ 1048576) : Φ 18 [.list (ns.map PyData.int)] = .ok (.bool true) := by
  have e : (d18 :: l18).map (·.fn) = VI.K71.T18 := rfl
  show fns ((d18 :: l18).map (·.fn)) 18 _ = _
  rw [e]
  refine VI.K71.all ns hl fun z hz => ?_
  have h := hb z hz
  unfold Builtin.Int.intBits at h
  split at h
  · rename_i h0
    have : z = 0 := by simpa using h0
    subst this
    decide
  · omega
theorem facts {P : Program} {w : World} {K : PySem.W.Frag} {h : Heap} {mg : PySem.Str → Option Value} {f : Addr} (X : K.In h) (G : h.Ns mainGlobals mg) (hfa : mg ("law" : PySem.Str) = some (.ref f)) (c : He.SaysD fa fn K) :
    ∃ fd : FuncData, (∀ (s : Shared) (v : Value), BindsTo s fd ⟨[v], []⟩ [("_law_script", v)]) ∧ ∀ base : Heap, K.In base → base.Ns mainGlobals mg → FnOk P w K mg base (L2.CX P w) 19 f fd ["_law_script"] (spF ⟨P, w, K, mg⟩ Φ 18 1) := by
  obtain ⟨fd, F, hF⟩ := (t18 X G c).top (P := P) (w := w) (blt X G c) (con X G c) hfa
  have b := FunD.bindsA (ps := ["_law_script"]) F fun _ _ _ _ _ _ us hl => match us, hl with | [_], _ => rfl
  exact ⟨fd, fun s v => b s [v] rfl, fun base _ _ => hF base⟩
end LW
open PySem PySem.W PySem.Calls PyProof.Rows
set_option maxHeartbeats 0 in
theorem PySem.Challenge.cw_pressluck_k71_round_by_round_holds : PySem.Challenge.rw_pressluck_k71_round_by_round.Holds := by
  w_on; o_law
  refine HandSHeadRun.head_any (r := OpenLaw.row PySem.Challenge.rw_pressluck_k71_round_by_round) (q := view (OpenLaw.row PySem.Challenge.rw_pressluck_k71_round_by_round).prog [25]) (H := LW.hk) (ob := LW.ob) (M := 4000) (loose := LW.loose) (d := HandSHeadRun.topDef (OpenLaw.row PySem.Challenge.rw_pressluck_k71_round_by_round).prog 25) (kwd := []) LW.ob_eq
    (by kernel_rfl) (fun s => by kernel_rfl) LW.run (by kernel_rfl) (by kernel_rfl) (by kernel_rfl) (by rfl) (by first | assumption | decide +kernel) (by decide +kernel) ⟨rfl, rfl, rfl, rfl, rfl, by decide +kernel⟩ ?hw ?hc
  case hw => w_witness2
  case hc =>
    refine VI.walk_EB (l := PySem.Challenge.rw_pressluck_k71_round_by_round) (n := 63) (k := 19) (x := "_law_script") (CX := fun w => L2.CX (PySem.Challenge.rw_pressluck_k71_round_by_round).prog w) rfl (by decide) (by kernel_rfl) ⟨rfl, by decide, by decide⟩ ?F (fun _ => VI.cx_no)
    intro w mg fa h Y G hmg0
    obtain ⟨K, KX, c⟩ := Y
    have hmg : mg ("law" : PySem.Str) = some (.ref fa) := by
      have e : (HandSHeadRun.topDef (OpenLaw.row PySem.Challenge.rw_pressluck_k71_round_by_round).prog 25).name = ("law" : PySem.Str) := by kernel_rfl
      rw [← e]
      exact hmg0
    obtain ⟨fd, hb, hF⟩ := LW.facts (P := (PySem.Challenge.rw_pressluck_k71_round_by_round).prog) (w := w) KX G hmg c
    exact ⟨K, fd, _, KX, hb, fun H a ns hl hbits hS => VI.sp_law hS (LW.plain ns hl hbits), hF⟩
