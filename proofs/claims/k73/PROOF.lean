import PyProof.Rows.All
import Wide.All
import OpenK.AllK
import Wide.FinOn
import HandS.ForMost
import HandS.ForExc
import HandS.Walk
import HandS.Defaults
import HandS.Text
import KE.KDictPairs
import HandS.TupAny
import HandS.Deep
import HandS.NoneIn
import HandS.Codes
import KE.SortData
import KE.DatumOrd
import PyProof.Rows.SortWalk
import HandS.IsInst
import HandS.SortInts
import HandS.TupLen
import HandS.Conv
import HandS.SetFor
import HandS.Exc
import HandS.WordsExc
import HandS.ExcOwn
import HandS.ExcIs
import HandS.Style
import KE.GoesEnum
import KE.GoesZip
import HandS.Zip
import HandS.Strs
import HandS.Small
import HandS.ExcValue
import HandS.DictTup
import HandS.TupLe
import KE.KStateDown
import HandS.Ends
import HandS.Head0
import HandS.Head1
import HandS.Head2
import HandS.HeadEnd
import HandS.HeadHook1
import HandS.HeadHook2
import PySem.Challenge.RW_heldrows_k73_whole_moves_apart
set_option Elab.async false
set_option linter.all false
set_option maxRecDepth 100000
set_option maxHeartbeats 1000000
set_option autoImplicit false
/-! D1: plain values, the plain reading of a text (terms, their run). -/
namespace D
open PySem PySem.Spec PyProof.Rows L2

/-- a plain value: lists and dicts here are ones that nobody changes any more -/
inductive PV where
  | non | bl (b : Bool) | int (i : Int) | str (x : Str)
  | tup (xs : List PV) | lst (xs : List PV)
  | dk (ks : List Key) (vs : List PV) | dt (ks : List (List Key)) (vs : List PV)
  | obj (n : Nat) | exc (c : Nat)
  | scr (ns : List Int)
  deriving Inhabited

/-- what a list or a dict that somebody owns holds -/
inductive Ct where
  | l (xs : List PV) | k (ks : List Key) (vs : List PV) | t (ks : List (List Key)) (vs : List PV)
  deriving Inhabited
def Ct.pv : Ct → PV
  | .l xs => .lst xs
  | .k ks vs => .dk ks vs
  | .t ks vs => .dt ks vs
/-- a term's value: a plain one; one that is owned elsewhere, and only looked at; a new one that nobody else has -/
inductive R where
  | val (v : PV) | bor (c : Ct) | fre (c : Ct)
  deriving Inhabited
/-- a slot: not set, a plain value, a list or dict of its own -/
inductive Sl where
  | un | val (v : PV) | own (c : Ct)
  deriving Inhabited
abbrev Ev := List Sl
/-- an instance: its class, its fields -/
structure Ob where
  cls : Nat
  fs : List (Str × Sl)
  deriving Inhabited
abbrev Om := List Ob
inductive Out (α : Type) where
  | ok (a : α) (W : Om) | exc (c : Nat) (W : Om) | bad
  deriving Inhabited
/-- what a def does -/
abbrev Fn := List PV → Om → Out R

def Out.bind {α β : Type} (o : Out α) (f : α → Om → Out β) : Out β := match o with
  | .ok a W => f a W
  | .exc c W => .exc c W
  | .bad => .bad
@[simp] theorem Out.bind_ok {α β : Type} (a : α) (W : Om) (f : α → Om → Out β) : (Out.ok a W).bind f = f a W := (rfl)
@[simp] theorem Out.bind_exc {α β : Type} (c : Nat) (W : Om) (f : α → Om → Out β) : (Out.exc c W : Out α).bind f = .exc c W := (rfl)
@[simp] theorem Out.bind_bad {α β : Type} (f : α → Om → Out β) : (Out.bad : Out α).bind f = .bad := (rfl)

/-! ### equality of data -/
mutual
def eqv : PV → PV → Bool
  | .non, .non => true
  | .bl a, .bl b => a == b
  | .bl a, .int j => (if a then 1 else 0) == j
  | .int i, .bl b => i == (if b then 1 else 0)
  | .int i, .int j => i == j
  | .str x, .str y => x == y
  | .lst xs, .lst ys => eqvs xs ys
  | .tup xs, .tup ys => eqvs xs ys
  | _, _ => false
def eqvs : List PV → List PV → Bool
  | [], [] => true
  | x :: xs, y :: ys => eqv x y && eqvs xs ys
  | _, _ => false
end
mutual
/-- data alone, so deep at most -/
def dat : Nat → PV → Bool
  | _, .non => true
  | _, .bl _ => true
  | _, .int _ => true
  | _, .str _ => true
  | 0, .lst _ => false
  | 0, .tup _ => false
  | n + 1, .lst xs => dats n xs
  | n + 1, .tup xs => dats n xs
  | _, _ => false
def dats : Nat → List PV → Bool
  | _, [] => true
  | n, x :: xs => dat n x && dats n xs
end
end D

/-! D2: operations on plain values; the terms and their reader. -/
namespace D
open PySem PySem.Spec PyProof.Rows L2

def sz : Nat := 16777216
inductive BO where | add | sub | mul | mod | fdiv | pow
  deriving DecidableEq
inductive CO where | eq | ne | lt | le | gt | ge | isin | notin
  deriving DecidableEq
inductive TY where | str | int | bool | tuple | list | exc (c : Nat)
  deriving DecidableEq
inductive BF where | len | all | any | list | tuple | max | sum | int | str | sortedI | lenset | sortedD | dict | sortSet
  deriving DecidableEq
inductive IK where | one | rng | enum | zip | items
  deriving DecidableEq
/-- methods of lists, texts, dicts that change nothing -/
inductive MB where | index | count | join | split | get
  deriving DecidableEq
inductive CT where | nm (i : Nat) | tp (ts : List CT)

def R.v : R → Option PV
  | .val v => some v
  | .fre c => some c.pv
  | .bor _ => none
def R.look : R → PV
  | .val v => v
  | .fre c => c.pv
  | .bor c => c.pv
def R.isB : R → Bool
  | .bor _ => true
  | _ => false
@[simp] theorem R.v_val (v : PV) : (R.val v).v = some v := (rfl)
@[simp] theorem R.v_fre (c : Ct) : (R.fre c).v = some c.pv := (rfl)
@[simp] theorem R.look_val (v : PV) : (R.val v).look = v := (rfl)
@[simp] theorem R.look_fre (c : Ct) : (R.fre c).look = c.pv := (rfl)
@[simp] theorem R.look_bor (c : Ct) : (R.bor c).look = c.pv := (rfl)
@[simp] theorem R.isB_val (v : PV) : (R.val v).isB = false := (rfl)
@[simp] theorem R.isB_fre (c : Ct) : (R.fre c).isB = false := (rfl)
@[simp] theorem R.isB_bor (c : Ct) : (R.bor c).isB = true := (rfl)

def small64 (i : Int) : Bool := decide (-18446744073709551616 < i) && decide (i < 18446744073709551616)
def binOp : BO → PV → PV → Option R
  | .add, .int a, .int b => some (.val (.int (a + b)))
  | .add, .str x, .str y => if x.length + y.length ≤ sz then some (.val (.str (x ++ y))) else none
  | .add, .lst xs, .lst ys => if xs.length + ys.length ≤ sz then some (.fre (.l (xs ++ ys))) else none
  | .add, .tup xs, .tup ys => if xs.length + ys.length ≤ sz then some (.val (.tup (xs ++ ys))) else none
  | .sub, .int a, .int b => some (.val (.int (a - b)))
  | .mul, .int a, .int b => if small64 a || small64 b then some (.val (.int (a * b))) else none
  | .mul, .str x, .int n => if 1 ≤ n ∧ n ≤ 1000 ∧ x.length ≤ 1000 then some (.val (.str ⟨((List.replicate n.toNat x.cps.toList).flatten).toArray⟩)) else none
  | .mod, .int a, .int b => if 0 < b then some (.val (.int (a % b))) else none
  | .fdiv, .int a, .int b => if 0 < b ∧ b < 1073741824 then some (.val (.int (a / b))) else none
  | .pow, .int a, .int b => if 0 ≤ b ∧ b ≤ 64 ∧ small64 a = true then some (.val (.int (a ^ b.toNat))) else none
  | _, _, _ => none

def ltS (x y : Str) : Bool := decide (x.cps.toList < y.cps.toList)
def toKey : PV → Option Key
  | .int i => some (.inl i)
  | .str x => some (.inr x)
  | _ => none
def toKeys : List PV → Option (List Key)
  | [] => some []
  | x :: xs => match toKey x, toKeys xs with
    | some k, some ks => some (k :: ks)
    | _, _ => none
def look? {κ : Type} [DecidableEq κ] : List κ → List PV → κ → Option PV
  | k :: ks, v :: vs, q => if k = q then some v else look? ks vs q
  | _, _, _ => none
def hasK {κ : Type} [DecidableEq κ] (ks : List κ) (q : κ) : Bool := ks.any fun k => decide (k = q)
def putKs {κ : Type} [DecidableEq κ] (ks : List κ) (q : κ) : List κ := if hasK ks q = true then ks else ks ++ [q]
def repVs {κ : Type} [DecidableEq κ] : List κ → List PV → κ → PV → List PV
  | k :: ks, v :: vs, q, p => (if k = q then p else v) :: repVs ks vs q p
  | _, _, _, _ => []
def putVs {κ : Type} [DecidableEq κ] (ks : List κ) (vs : List PV) (q : κ) (p : PV) : List PV := if hasK ks q = true then repVs ks vs q p else vs ++ [p]
/-- c[k] = v -/
def putC : Ct → PV → PV → Option Ct
  | .l xs, .int i, v => match ixN xs.length i with
    | some j => some (.l (xs.set j v))
    | none => none
  | .k ks vs, k, v => match toKey k with
    | some q => if ks.length < sz then some (.k (putKs ks q) (putVs ks vs q v)) else none
    | none => none
  | .t ks vs, .tup k, v => match toKeys k with
    | some q => if ks.length < sz then some (.t (putKs ks q) (putVs ks vs q v)) else none
    | none => none
  | _, _, _ => none
/-- a field put, in its place or at the end -/
def putS (f : Str) (v : Sl) : List (Str × Sl) → List (Str × Sl)
  | [] => [(f, v)]
  | (k, x) :: r => if k = f then (k, v) :: r else (k, x) :: putS f v r
def dropKs {κ : Type} [DecidableEq κ] (ks : List κ) (q : κ) : List κ := ks.filter fun k => decide (k ≠ q)
def dropVs {κ : Type} [DecidableEq κ] : List κ → List PV → κ → List PV
  | k :: ks, v :: vs, q => if k = q then dropVs ks vs q else v :: dropVs ks vs q
  | _, _, _ => []
/-- c.pop(k), k being there -/
def dropC : Ct → PV → Option Ct
  | .k ks vs, k => match toKey k with
    | some q => if (look? ks vs q).isSome then some (.k (dropKs ks q) (dropVs ks vs q)) else none
    | none => none
  | .t ks vs, .tup k => match toKeys k with
    | some q => if (look? ks vs q).isSome then some (.t (dropKs ks q) (dropVs ks vs q)) else none
    | none => none
  | _, _ => none
/-- exceptions: 0 is HeldError, all others stand right below it; 99: ValueError -/
def esub (c d : Nat) : Bool := c == d || (d == 0 || d == 99)
def isxV (d : Nat) : PV → Option Bool
  | .exc c => some (esub c d)
  | _ => none
/-- what a dict has at a key; none: this is no dict or key -/
def dget : PV → PV → Option (Option PV)
  | .dk ks vs, k => match toKey k with
    | some q => some (look? ks vs q)
    | none => none
  | .dt ks vs, .tup k => match toKeys k with
    | some q => some (look? ks vs q)
    | none => none
  | _, _ => none
def inV : PV → PV → Option Bool
  | x, .lst ys => if dat 60 x && dats 60 ys then some (ys.any fun y => eqv y x) else none
  | x, .tup ys => if dat 60 x && dats 60 ys then some (ys.any fun y => eqv y x) else none
  | .str x, .str z => match x.cps.toList with
    | [c] => some (decide (c ∈ z.cps.toList))
    | _ => none
  | x, d => match dget d x with
    | some o => some o.isSome
    | none => none
/-- the script, and a list -/
def eqI : List Int → List PV → Bool
  | [], [] => true
  | n :: ns, .int m :: ys => n == m && eqI ns ys
  | n :: ns, .bl b :: ys => n == (if b then 1 else 0) && eqI ns ys
  | _, _ => false
def cmpOp : CO → PV → PV → Option Bool
  | .eq, .scr ns, .lst ys => if dats 59 ys then some (eqI ns ys) else none
  | .eq, a, b => if dat 60 a && dat 60 b then some (eqv a b) else none
  | .ne, a, b => if dat 60 a && dat 60 b then some (!eqv a b) else none
  | .isin, a, b => inV a b
  | .notin, a, b => match inV a b with
    | some r => some (!r)
    | none => none
  | .lt, .int a, .int b => some (decide (a < b))
  | .le, .int a, .int b => some (decide (a ≤ b))
  | .gt, .int a, .int b => some (decide (b < a))
  | .ge, .int a, .int b => some (decide (b ≤ a))
  | .lt, .str a, .str b => some (ltS a b)
  | .le, .str a, .str b => some (!ltS b a)
  | .gt, .str a, .str b => some (ltS b a)
  | .ge, .str a, .str b => some (!ltS a b)
  | _, _, _ => none

def idxV : PV → PV → Option PV
  | .lst xs, .int i => atI xs i
  | .tup xs, .int i => atI xs i
  | .scr ns, .int i => (atI ns i).map .int
  | .str z, .int i => match atI z.cps.toList i with
    | some c => some (.str ⟨#[c]⟩)
    | none => none
  | d, k => match dget d k with
    | some o => o
    | none => none
def cutP {α : Type} (xs : List α) (lo hi : Option Int) : List α := (xs.drop (HT.sIx xs.length 0 lo)).take (HT.sIx xs.length xs.length hi - HT.sIx xs.length 0 lo)
def sliceV : PV → Option Int → Option Int → Option R
  | .lst xs, lo, hi => some (.fre (.l (cutP xs lo hi)))
  | .tup xs, lo, hi => some (.val (.tup (cutP xs lo hi)))
  | .str z, lo, hi => some (.val (.str (cutS z lo hi)))
  | _, _, _ => none
def asInt : PV → Option Int
  | .int i => some i
  | _ => none
def asBl : PV → Option Bool
  | .bl b => some b
  | _ => none
def asBls : List PV → Option (List Bool)
  | [] => some []
  | .bl b :: r => match asBls r with
    | some l => some (b :: l)
    | none => none
  | _ => none
def asInts : List PV → Option (List Int)
  | [] => some []
  | .int b :: r => match asInts r with
    | some l => some (b :: l)
    | none => none
  | _ => none
def asStrs : List PV → Option (List Str)
  | [] => some []
  | .str b :: r => match asStrs r with
    | some l => some (b :: l)
    | none => none
  | _ => none
def keyPV : Key → PV
  | .inl i => .int i
  | .inr x => .str x
def charsV (z : Str) : List PV := z.cps.toList.map fun c => .str ⟨#[c]⟩
/-- what a for walks -/
def itemsV : PV → Option (List PV)
  | .lst xs => some xs
  | .scr ns => some (ns.map .int)
  | .tup xs => some xs
  | .str z => some (charsV z)
  | _ => none
def enumF (n : Nat) : List PV → List PV
  | [] => []
  | x :: xs => .tup [.int n, x] :: enumF (n + 1) xs
def zipF : List PV → List PV → List PV
  | x :: xs, y :: ys => .tup [x, y] :: zipF xs ys
  | _, _ => []
def rngF (a : Int) : Nat → List PV
  | 0 => []
  | n + 1 => .int a :: rngF (a + 1) n
/-- a pair with a name; a kind of a schema; a tuple that looks like a schema -/
def fdk : PV → Bool
  | .tup [.str _, _] => true
  | _ => false
def kdk : PV → Bool
  | .tup [.str _, .tup (f :: fs)] => (f :: fs).all fdk
  | _ => false
def slk : List PV → Bool
  | [] => false
  | x :: xs => (x :: xs).all kdk
def slp : PV → Bool
  | .tup xs => slk xs
  | _ => false
def inR62 (i : Int) : Bool := decide (-4611686018427387904 ≤ i) && decide (i < 4611686018427387904)
def itV : IK → List PV → Option (List PV)
  | .one, [x] => itemsV x
  | .rng, [.int n] => if inR62 n then some (rngF 0 n.toNat) else none
  | .rng, [.int a, .int b] => if inR62 a && inR62 b then some (rngF a (b - a).toNat) else none
  | .enum, [.lst xs] => some (enumF 0 xs)
  | .enum, [.tup xs] => some (enumF 0 xs)
  | .zip, [.lst xs, .lst ys] => if (zipF xs ys).any slp then none else some (zipF xs ys)
  | .zip, [.tup xs, .tup ys] => if (zipF xs ys).any slp then none else some (zipF xs ys)
  | .zip, [.lst xs, .tup ys] => if (zipF xs ys).any slp then none else some (zipF xs ys)
  | .zip, [.tup xs, .lst ys] => if (zipF xs ys).any slp then none else some (zipF xs ys)
  | _, _ => none
def lenV : PV → Option Nat
  | .lst xs => some xs.length
  | .scr ns => some ns.length
  | .tup xs => some xs.length
  | .str z => some z.length
  | .dk ks _ => some ks.length
  | .dt ks _ => some ks.length
  | _ => none
def isiV : TY → PV → Option Bool
  | _, .obj _ => none
  | _, .exc _ => none
  | _, .scr _ => none
  | .str, v => some (match v with | .str _ => true | _ => false)
  | .int, v => some (match v with | .int _ => true | .bl _ => true | _ => false)
  | .bool, v => some (match v with | .bl _ => true | _ => false)
  | .tuple, v => some (match v with | .tup _ => true | _ => false)
  | .list, v => some (match v with | .lst _ => true | _ => false)
  | .exc _, _ => none
mutual
/-- data of one form -/
def alk : PV → PV → Bool
  | .bl _, .bl _ => true
  | .int _, .int _ => true
  | .str _, .str _ => true
  | .tup xs, .tup ys => alks xs ys
  | _, _ => false
def alks : List PV → List PV → Bool
  | [], [] => true
  | x :: xs, y :: ys => alk x y && alks xs ys
  | _, _ => false
end
mutual
/-- the order of such data -/
def ltD : PV → PV → Bool
  | .bl a, .bl b => !a && b
  | .int a, .int b => decide (a < b)
  | .str a, .str b => ltS a b
  | .tup xs, .tup ys => ltDs xs ys
  | _, _ => false
def ltDs : List PV → List PV → Bool
  | x :: xs, y :: ys => if eqv x y then ltDs xs ys else ltD x y
  | _, _ => false
end
def leD (a b : PV) : Bool := !ltD b a
/-- tuples alone, none empty, or none of them -/
def srtb (xs : List PV) : Bool := xs.all (fun x => match x with | .tup (_ :: _) => true | _ => false) || xs.all (fun x => match x with | .int _ => true | .str _ => true | .bl _ => true | _ => false)
def allAlk (xs : List PV) : Bool := xs.all fun x => xs.all fun y => alk x y
/-- the first place of an equal one -/
def findI (x : PV) : List PV → Option Nat
  | [] => none
  | y :: ys => if eqv y x then some 0 else (findI x ys).map (· + 1)
def cntI (x : PV) (ys : List PV) : Nat := ys.countP fun y => eqv y x
def pairsK : List PV → Option (List Key × List PV)
  | [] => some ([], [])
  | .tup [k, v] :: r => match toKey k, pairsK r with
    | some q, some (ks, vs) => some (q :: ks, v :: vs)
    | _, _ => none
  | _ => none
def mrgP : List Key → List PV → List Key → List PV → Ct
  | ks, vs, k :: r, v :: s => mrgP (putKs ks k) (putVs ks vs k v) r s
  | ks, vs, _, _ => .k ks vs
def maxI : List Int → Option Int
  | [] => none
  | x :: xs => some (xs.foldl (fun a b => if b > a then b else a) x)
def insI (x : Int) : List Int → List Int
  | [] => [x]
  | y :: ys => if x ≤ y then x :: y :: ys else y :: insI x ys
def sortI : List Int → List Int
  | [] => []
  | x :: xs => insI x (sortI xs)
/-- each once, rising -/
def insU (x : Int) : List Int → List Int
  | [] => [x]
  | y :: ys => if x < y then x :: y :: ys else if x = y then y :: ys else y :: insU x ys
def srtU : List Int → List Int
  | [] => []
  | x :: xs => insU x (srtU xs)
/-- how many unlike -/
def memK (x : Key) (l : List Key) : Bool := l.any fun y => decide (y = x)
def dcK : List Key → Nat
  | [] => 0
  | x :: l => if memK x l = true then dcK l else dcK l + 1
/-- a text as the machine may have it -/
def okS (x : Str) : Bool := PyData.strOk x && decide (x.length ≤ sz)
def okK : Key → Bool
  | .inl _ => true
  | .inr x => okS x
def bltV : BF → List PV → Option R
  | .len, [v] => match lenV v with
    | some n => some (.val (.int n))
    | none => none
  | .all, [.lst xs] => match asBls xs with
    | some l => some (.val (.bl (l.all id)))
    | none => none
  | .any, [.lst xs] => match asBls xs with
    | some l => some (.val (.bl (l.any id)))
    | none => none
  | .list, [.lst xs] => some (.fre (.l xs))
  | .list, [.tup xs] => some (.fre (.l xs))
  | .list, [.dk ks _] => if ks.all okK then some (.fre (.l (ks.map keyPV))) else none
  | .list, [.dt ks _] => if (ks.all fun k => k.all okK) then some (.fre (.l (ks.map fun k => .tup (k.map keyPV)))) else none
  | .dict, [.lst xs] => match pairsK xs with
    | some (ks, vs) => some (.fre (mrgP [] [] ks vs))
    | none => none
  | .dict, [.tup xs] => if slk xs then match pairsK xs with
    | some (ks, vs) => some (.fre (mrgP [] [] ks vs))
    | none => none
    else none
  | .tuple, [.lst xs] => some (.val (.tup xs))
  | .tuple, [.tup xs] => some (.val (.tup xs))
  | .max, [.lst xs] => match asInts xs with
    | some l => match maxI l with
      | some m => some (.val (.int m))
      | none => none
    | none => none
  | .sum, [.lst xs] => match asInts xs with
    | some l => some (.val (.int l.sum))
    | none => none
  | .int, [.int i] => some (.val (.int i))
  | .int, [.bl b] => some (.val (.int (if b then 1 else 0)))
  | .sortedI, [.lst xs] => match asInts xs with
    | some l => some (.fre (.l ((sortI l).map PV.int)))
    | none => none
  | .lenset, [.lst xs] => match toKeys xs with
    | some l => if l.length ≤ 1000 then some (.val (.int (dcK l : Nat))) else none
    | none => none
  | .sortSet, [.lst xs] => match asInts xs with
    | some l => if l.length ≤ 60 then some (.fre (.l ((srtU l).map PV.int))) else none
    | none => none
  | .sortedD, [.lst xs] => if dats 20 xs && allAlk xs && srtb xs && decide (xs.length ≤ sz) then some (.fre (.l (xs.mergeSort leD))) else none
  | _, _ => none
def tyM : MB → PV → Bool
  | .index, .lst _ => true
  | .count, .lst _ => true
  | .join, .str _ => true
  | .split, .str _ => true
  | .get, .dk _ _ => true
  | .get, .dt _ _ => true
  | _, _ => false
def flatP : PV → Bool
  | .non => true | .bl _ => true | .int _ => true | .str _ => true | .tup _ => true | _ => false
def methV : MB → PV → List PV → Option R
  | .index, .lst ys, [x] => if dat 60 x && dats 59 ys then match findI x ys with
      | some j => some (.val (.int j))
      | none => none
    else none
  | .count, .lst ys, [x] => if dat 60 x && dats 59 ys then some (.val (.int (cntI x ys))) else none
  | .join, .str a, [.lst ys] => match asStrs ys with
    | some l => if (l.map (·.length)).sum + l.length * a.length ≤ sz then some (.val (.str (PySem.Str.join a l))) else none
    | none => none
  | .get, d, [k] => match dget d k with
    | some o => some (.val (o.getD .non))
    | none => none
  | .get, d, [k, v] => match dget d k with
    | some o => if flatP v then some (.val (o.getD v)) else none
    | none => none
  | _, _, _ => none

def revV : PV → Option R
  | .lst xs => some (.fre (.l xs.reverse))
  | .tup xs => some (.val (.tup xs.reverse))
  | _ => none

/-! ### terms -/
inductive CE where
  | non | bl (b : Bool) | int (i : Int) | str (x : Str)
  | var (i : Nat) | glb (x : Str) (v : PV)
  | tup (es : List CE) | lst (es : List CE)
  | op (o : BO) (a b : CE)
  | cmp (o : CO) (a b : CE) | cmp2 (o o' : CO) (a b c : CE)
  | isN (a : CE) | notN (a : CE) | isB (b : Bool) (a : CE) | notB (b : Bool) (a : CE)
  | and (es : List CE) | or (es : List CE) | not (a : CE) | neg (a : CE)
  | ite (c a b : CE)
  | idx (a i : CE) | slL (a lo : CE) | slH (a hi : CE) | slB (a lo hi : CE)
  | call (f : Nat) (es : List CE)
  | blt (f : BF) (es : List CE)
  | isi (a : CE) (ty : TY)
  | inT (neg : Bool) (a : CE) (x : Str) (vs : List PV)
  | comp (elt : CE) (tg : CT) (k : IK) (es : List CE) (cond : List CE) (own : List (Str × Nat))
  | dct (t : Bool)
  | meth (m : MB) (a : CE) (es : List CE)
  | isx (a : CE) (x : Str) (c : Nat)
  | rev (a : CE)
  | fld (a : CE) (f : Str) | fldF (a : CE) (f : Str)
  | mcall (f c : Nat) (a : CE) (m : Str) (es : List CE) | mk (c : Nat) (x : Str) (f : Nat) (es : List CE)
  deriving Inhabited
inductive CS where
  | ret (e : CE) | retO (i : Nat)
  | asg (tg : CT) (e : CE) | own (i : Nat) (e : CE)
  | app (i : Nat) (e : CE) | ext (i : Nat) (e : CE)
  | ife (c : CE) (a b : List CS)
  | fr (tg : CT) (k : IK) (es : List CE) (body : List CS) (kil : List Nat)
  | wh (n : Nat) (c : CE) (body : List CS) (kil : List Nat)
  | brk | cont | pass
  | frz (is : List Nat) (s : CS)
  | put (i : Nat) (k v : CE)
  | putA (i : Nat) (k e c k2 x : CE)
  | exp (e : CE)
  | rais (x : Str) (c : Nat)
  | tryk (body : List CS) (x : Str) (c i j : Nat)
  | fset (a : CE) (f : Str) (e : CE)
  | fput (i : Nat) (f : Str) (k v : CE) | fapp (i : Nat) (f : Str) (e : CE) | fpop (i : Nat) (f : Str) (k : CE)
  | pop (i : Nat) (k : CE) | popl (j i : Nat)
  | par (is : List (Nat × Bool)) (es : List CE)
  deriving Inhabited

/-- what a reader asks of the defs around -/
structure Tb where
  fn : Nat → Fn
  pu : Nat → Bool

mutual
/-- nothing that stood is changed -/
def pureE (p : Nat → Bool) : CE → Bool
  | .non | .bl _ | .int _ | .str _ | .var _ | .glb _ _ => true
  | .tup es | .lst es | .and es | .or es | .blt _ es => pureEs p es
  | .op _ a b | .cmp _ a b | .idx a b | .slL a b | .slH a b => pureE p a && pureE p b
  | .cmp2 _ _ a b c | .ite a b c | .slB a b c => pureE p a && (pureE p b && pureE p c)
  | .isN a | .notN a | .isB _ a | .notB _ a | .not a | .neg a | .isi a _ | .inT _ a _ _ => pureE p a
  | .call f es => p f && pureEs p es
  | .comp e _ _ es c _ => pureE p e && (pureEs p es && pureEs p c)
  | .dct _ => true
  | .meth _ a es => pureE p a && pureEs p es
  | .isx a _ _ => pureE p a
  | .rev a => pureE p a
  | .fld a _ | .fldF a _ => pureE p a
  | .mcall f _ a _ es => p f && (pureE p a && pureEs p es)
  | .mk _ _ _ _ => false
def pureEs (p : Nat → Bool) : List CE → Bool
  | [] => true
  | e :: es => pureE p e && pureEs p es
end

mutual
def bind : CT → PV → Ev → Option Ev
  | .nm i, v, env => some (env.set i (.val v))
  | .tp ts, .tup vs, env => binds ts vs env
  | .tp _, _, _ => none
def binds : List CT → List PV → Ev → Option Ev
  | [], [], env => some env
  | t :: ts, v :: vs, env => match bind t v env with
    | some env' => binds ts vs env'
    | none => none
  | _, _, _ => none
end
def wipeE (env : Ev) : List Nat → Ev
  | [] => env
  | v :: vs => (wipeE env vs).set v .un
def vals? : List R → Option (List PV)
  | [] => some []
  | r :: rs => match r.v, vals? rs with
    | some v, some vs => some (v :: vs)
    | _, _ => none
def noB (rs : List R) : Bool := rs.all fun r => !r.isB
def noX {α : Type} : Out α → Out α
  | .exc _ _ => .bad
  | o => o
def opt {α : Type} (o : Option α) (W : Om) : Out α := match o with
  | some a => .ok a W
  | none => .bad
@[simp] theorem opt_some {α : Type} (a : α) (W : Om) : opt (some a) W = .ok a W := (rfl)
@[simp] theorem opt_none {α : Type} (W : Om) : opt (none : Option α) W = .bad := (rfl)

/-! ### a term's parts put together -/
abbrev F := Ev → Om → Out R
def evC (v : PV) : F := fun _ W => .ok (.val v) W
def evVar (i : Nat) : F := fun env W => match env[i]? with
  | some (.val v) => .ok (.val v) W
  | some (.own c) => .ok (.bor c) W
  | _ => .bad
/-- one, then an operation -/
def ev1 (fa : F) (f : R → Option R) : F := fun env W => (fa env W).bind fun x W1 => opt (f x) W1
/-- two, then an operation -/
def ev2 (fa fb : F) (pb : Bool) (f : R → R → Option R) : F := fun env W =>
  (fa env W).bind fun x W1 => (fb env W1).bind fun y W2 => if x.isB && !pb then .bad else opt (f x y) W2
/-- both ends of a slice -/
def evSlB (fa fb fc : F) (pbc : Bool) : F := fun env W =>
  (fa env W).bind fun x W1 => (fb env W1).bind fun y W2 => match asInt y.look with
    | some j => (fc env W2).bind fun z W3 => if x.isB && !pbc then .bad else opt ((asInt z.look).bind fun l => sliceV x.look (some j) (some l)) W3
    | none => .bad
def fCmp (o : CO) : R → R → Option R := fun x y => (cmpOp o x.look y.look).map fun r => .val (.bl r)
/-- a chain of two -/
def evCh (fa fb fc : F) (o o' : CO) : F := fun env W =>
  (fa env W).bind fun x W1 => (fb env W1).bind fun y W2 => if x.isB || y.isB then .bad else match cmpOp o x.look y.look with
    | some true => (fc env W2).bind fun z W3 => match cmpOp o' y.look z.look with
      | some r => .ok (.val (.bl r)) W3
      | none => .bad
    | some false => .ok (.val (.bl false)) W2
    | none => .bad
def isNon : R → Bool
  | .val .non => true
  | _ => false
def fIsB (b : Bool) : R → Option R
  | .val (.bl c) => some (.val (.bl (c == b)))
  | _ => none
def fNotB (b : Bool) : R → Option R
  | .val (.bl c) => some (.val (.bl (!(c == b))))
  | _ => none
def fNot : R → Option R
  | .val (.bl c) => some (.val (.bl (!c)))
  | _ => none
def fNeg : R → Option R
  | .val (.int c) => some (.val (.int (-c)))
  | _ => none
/-- a truth, then the one or the other -/
def evIf (fc fa fb : F) : F := fun env W => (fc env W).bind fun x W1 => match x with
  | .val (.bl true) => fa env W1
  | .val (.bl false) => fb env W1
  | _ => .bad
def evAnd : List F → F
  | [] => evC (.bl true)
  | [f] => f
  | f :: fs => fun env W => (f env W).bind fun x W1 => match x with
    | .val (.bl true) => evAnd fs env W1
    | .val (.bl false) => .ok (.val (.bl false)) W1
    | _ => .bad
def evOr : List F → F
  | [] => evC (.bl false)
  | [f] => f
  | f :: fs => fun env W => (f env W).bind fun x W1 => match x with
    | .val (.bl false) => evOr fs env W1
    | .val (.bl true) => .ok (.val (.bl true)) W1
    | _ => .bad
def evs : List F → Ev → Om → Out (List R)
  | [], _, W => .ok [] W
  | f :: fs, env, W => (f env W).bind fun r W1 => (evs fs env W1).bind fun rs W2 => .ok (r :: rs) W2
def evTup (fs : List F) : F := fun env W => (evs fs env W).bind fun rs W1 => match vals? rs with
  | some vs => if vs.length ≤ sz then .ok (.val (.tup vs)) W1 else .bad
  | none => .bad
def evLst (fs : List F) : F := fun env W => (evs fs env W).bind fun rs W1 => match vals? rs with
  | some vs => if vs.length ≤ sz then .ok (.fre (.l vs)) W1 else .bad
  | none => .bad
def evCall (f : Fn) (fs : List F) : F := fun env W => (evs fs env W).bind fun rs W1 => match vals? rs with
  | some vs => f vs W1
  | none => .bad
def evBlt (f : List PV → Option R) (fs : List F) (p : Bool) : F := fun env W => (evs fs env W).bind fun rs W1 => if noB rs || p then opt (f (rs.map R.look)) W1 else .bad
def evMeth (m : MB) (fa : F) (fs : List F) (p : Bool) : F := fun env W => (fa env W).bind fun x W1 => if tyM m x.look then (evs fs env W1).bind fun rs W2 => if noB (x :: rs) || p then opt (methV m x.look (rs.map R.look)) W2 else .bad else .bad
/-- a comprehension's turns -/
def loopC (f : PV → Om → Out (Option PV)) : List PV → Om → Out (List PV)
  | [], W => .ok [] W
  | x :: xs, W => (f x W).bind fun o W1 => (loopC f xs W1).bind fun ys W2 => .ok (match o with
    | some y => y :: ys
    | none => ys) W2
def turnC (fe : F) (tg : CT) (fc : List F) (own : List Nat) (env : Ev) : PV → Om → Out (Option PV) := fun x W => match bind tg x (wipeE env own) with
  | some env' => noX ((evAnd fc env' W).bind fun t W3 => match t with
    | .val (.bl true) => (fe env' W3).bind fun y W4 => match y.v with
      | some v => .ok (some v) W4
      | none => .bad
    | .val (.bl false) => .ok none W3
    | _ => .bad)
  | none => .bad
def evComp (fe : F) (tg : CT) (k : IK) (fs : List F) (fc : List F) (own : List Nat) (ps pt : Bool) : F := fun env W => (evs fs env W).bind fun rs W1 =>
  if noB rs || (ps && pt) then match itV k (rs.map R.look) with
    | some items => if items.length ≤ sz then (loopC (turnC fe tg fc own env) items W1).bind fun ys W4 => .ok (.fre (.l ys)) W4 else .bad
    | none => .bad
  else .bad

/-- a field of an instance -/
def evFld (fa : F) (f : Str) : F := fun env W => (fa env W).bind fun x W1 => match x with
  | .val (.obj n) => match W1[n]? with
    | some o => match o.fs.lookup f with
      | some (.val p) => .ok (.val p) W1
      | some (.own c) => .ok (.bor c) W1
      | _ => .bad
    | none => .bad
  | _ => .bad
/-- .. whose list or dict is never changed again -/
def evFldF (fa : F) (f : Str) : F := fun env W => (fa env W).bind fun x W1 => match x with
  | .val (.obj n) => match W1[n]? with
    | some o => match o.fs.lookup f with
      | some (.val p) => .ok (.val p) W1
      | some (.own c) => .ok (.val c.pv) (W1.set n ⟨o.cls, putS f (.val c.pv) o.fs⟩)
      | _ => .bad
    | none => .bad
  | _ => .bad
/-- a method's call -/
def evMc (fn : Fn) (c : Nat) (m : Str) (fa : F) (fs : List F) : F := fun env W => (fa env W).bind fun x W1 => match x with
  | .val (.obj n) => match W1[n]? with
    | some o => if o.cls = c ∧ (o.fs.lookup m).isNone = true then (evs fs env W1).bind fun rs W2 => match vals? rs with
        | some vs => fn (.obj n :: vs) W2
        | none => .bad
      else .bad
    | none => .bad
  | _ => .bad
def unO (n : Nat) : R → Om → Out R
  | .val .non, W => .ok (.val (.obj n)) W
  | _, _ => .bad
/-- a new instance -/
def evMk (fn : Fn) (c : Nat) (fs : List F) : F := fun env W => (evs fs env W).bind fun rs W1 => match vals? rs with
  | some vs => (fn (.obj W1.length :: vs) (W1 ++ [⟨c, []⟩])).bind (unO W1.length)
  | none => .bad
mutual
def ev (T : Tb) : CE → F
  | .non => evC .non
  | .bl b => evC (.bl b)
  | .int i => evC (.int i)
  | .str x => evC (.str x)
  | .var i => evVar i
  | .glb _ v => evC v
  | .tup es => evTup (evl T es)
  | .lst es => evLst (evl T es)
  | .op o a b => ev2 (ev T a) (ev T b) (pureE T.pu b) fun x y => binOp o x.look y.look
  | .cmp o a b => ev2 (ev T a) (ev T b) (pureE T.pu b) (fCmp o)
  | .cmp2 o o' a b c => evCh (ev T a) (ev T b) (ev T c) o o'
  | .isN a => ev1 (ev T a) fun x => some (.val (.bl (isNon x)))
  | .notN a => ev1 (ev T a) fun x => some (.val (.bl (!isNon x)))
  | .isB b a => ev1 (ev T a) (fIsB b)
  | .notB b a => ev1 (ev T a) (fNotB b)
  | .and es => evAnd (evl T es)
  | .or es => evOr (evl T es)
  | .not a => ev1 (ev T a) fNot
  | .neg a => ev1 (ev T a) fNeg
  | .ite c a b => evIf (ev T c) (ev T a) (ev T b)
  | .idx a i => ev2 (ev T a) (ev T i) (pureE T.pu i) fun x y => (idxV x.look y.look).map .val
  | .slL a i => ev2 (ev T a) (ev T i) (pureE T.pu i) fun x y => (asInt y.look).bind fun j => sliceV x.look (some j) none
  | .slH a i => ev2 (ev T a) (ev T i) (pureE T.pu i) fun x y => (asInt y.look).bind fun j => sliceV x.look none (some j)
  | .slB a i k => evSlB (ev T a) (ev T i) (ev T k) (pureE T.pu i && pureE T.pu k)
  | .call f es => evCall (T.fn f) (evl T es)
  | .blt f es => evBlt (bltV f) (evl T es) (pureEs T.pu es)
  | .isi a ty => ev1 (ev T a) fun x => (isiV ty x.look).map fun b => .val (.bl b)
  | .inT ng a _ vs => ev1 (ev T a) fun x => (inV x.look (.tup vs)).map fun b => .val (.bl (if ng then !b else b))
  | .comp e tg k es c own => evComp (ev T e) tg k (evl T es) (evl T c) (own.map (·.2)) (pureEs T.pu es) (pureE T.pu e && pureEs T.pu c)
  | .dct t => fun _ W => .ok (.fre (if t then .t [] [] else .k [] [])) W
  | .meth m a es => evMeth m (ev T a) (evl T es) (pureEs T.pu es)
  | .isx a _ c => ev1 (ev T a) fun x => (isxV c x.look).map fun b => .val (.bl b)
  | .rev a => ev1 (ev T a) fun x => revV x.look
  | .fld a f => evFld (ev T a) f
  | .fldF a f => evFldF (ev T a) f
  | .mcall f c a m es => evMc (T.fn f) c m (ev T a) (evl T es)
  | .mk c _ f es => evMk (T.fn f) c (evl T es)
def evl (T : Tb) : List CE → List F
  | [] => []
  | e :: es => ev T e :: evl T es
end

/-! ### statements -/
inductive Fl where | nx | ret (r : R) | brk | cont
  deriving Inhabited
inductive SO where | ok (f : Fl) (env : Ev) (W : Om) | exc (c : Nat) (env : Ev) (W : Om) | bad
  deriving Inhabited
abbrev S := Ev → Om → SO
def Out.st {α : Type} (o : Out α) (env : Ev) (f : α → Om → SO) : SO := match o with
  | .ok a W => f a W
  | .exc c W => .exc c env W
  | .bad => .bad
@[simp] theorem Out.st_ok {α : Type} (a : α) (W : Om) (env : Ev) (f : α → Om → SO) : (Out.ok a W).st env f = f a W := (rfl)
@[simp] theorem Out.st_exc {α : Type} (c : Nat) (W : Om) (env : Ev) (f : α → Om → SO) : (Out.exc c W : Out α).st env f = .exc c env W := (rfl)
@[simp] theorem Out.st_bad {α : Type} (env : Ev) (f : α → Om → SO) : (Out.bad : Out α).st env f = .bad := (rfl)
def xSeq (s t : S) : S := fun env W => match s env W with
  | .ok .nx env' W' => t env' W'
  | o => o
def xNx : S := fun env W => .ok .nx env W
def xFl (f : Fl) : S := fun env W => .ok f env W
def xRet (fe : F) : S := fun env W => (fe env W).st env fun r W1 => if r.isB then .bad else .ok (.ret r) env W1
def xRetO (i : Nat) : S := fun env W => match env[i]? with
  | some (.own c) => .ok (.ret (.fre c)) env W
  | _ => .bad
def xAsg (tg : CT) (fe : F) : S := fun env W => (fe env W).st env fun r W1 => match r.v with
  | some v => match bind tg v env with
    | some env' => .ok .nx env' W1
    | none => .bad
  | none => .bad
def xOwn (i : Nat) (fe : F) : S := fun env W => (fe env W).st env fun r W1 => match r with
  | .fre c => .ok .nx (env.set i (.own c)) W1
  | _ => .bad
def xApp (i : Nat) (fe : F) : S := fun env W => match env[i]? with
  | some (.own (.l xs)) => (fe env W).st env fun r W1 => match r.v with
    | some v => if xs.length < sz then .ok .nx (env.set i (.own (.l (xs ++ [v])))) W1 else .bad
    | none => .bad
  | _ => .bad
def xExt (i : Nat) (fe : F) : S := fun env W => match env[i]? with
  | some (.own (.l xs)) => (fe env W).st env fun r W1 => match r.look with
    | .lst ys => if xs.length + ys.length ≤ sz then .ok .nx (env.set i (.own (.l (xs ++ ys)))) W1 else .bad
    | _ => .bad
  | _ => .bad
def xIf (fc : F) (a b : S) : S := fun env W => (fc env W).st env fun r W1 => match r with
  | .val (.bl true) => a env W1
  | .val (.bl false) => b env W1
  | _ => .bad
def loopF (kil : List Nat) (f : PV → S) : List PV → S
  | [], env, W => .ok .nx env W
  | x :: xs, env, W => match f x env W with
    | .ok .nx env' W' => loopF kil f xs (wipeE env' kil) W'
    | .ok .cont env' W' => loopF kil f xs (wipeE env' kil) W'
    | .ok .brk env' W' => .ok .nx (wipeE env' kil) W'
    | o => o
def turnF (tg : CT) (b : S) : PV → S := fun x env W => match bind tg x env with
  | some env' => b env' W
  | none => .bad
def xFor (tg : CT) (k : IK) (fs : List F) (b : S) (kil : List Nat) : S := fun env W => (evs fs env W).st env fun rs W1 => if noB rs then match itV k (rs.map R.look) with
    | some items => loopF kil (turnF tg b) items env W1
    | none => .bad
  else .bad
def xWh (kil : List Nat) (c : F) (b : S) : Nat → S
  | 0, _, _ => .bad
  | n + 1, env, W => (c env W).st env fun r W1 => match r with
    | .val (.bl false) => .ok .nx env W1
    | .val (.bl true) => match b env W1 with
      | .ok .nx env' W' => xWh kil c b n (wipeE env' kil) W'
      | .ok .cont env' W' => xWh kil c b n (wipeE env' kil) W'
      | .ok .brk env' W' => .ok .nx (wipeE env' kil) W'
      | o => o
    | _ => .bad
def frzE : Ev → List Nat → Option Ev
  | env, [] => some env
  | env, i :: is => match env[i]? with
    | some (.own c) => frzE (env.set i (.val c.pv)) is
    | some (.val _) => frzE env is
    | _ => none
def xFrz (is : List Nat) (s : S) : S := fun env W => match frzE env is with
  | some env' => s env' W
  | none => .bad
/-- s[k] = v, s a slot's own list or dict -/
def xPut (i : Nat) (fk fv : F) : S := fun env W => match env[i]? with
  | some (.own c) => (fv env W).st env fun r W1 => match r.v with
    | some v => (fk env W1).st env fun rk W2 => if rk.isB then .bad else match putC c rk.look v with
      | some c' => .ok .nx (env.set i (.own c')) W2
      | none => .bad
    | none => .bad
  | _ => .bad
def flatA : PV → Bool
  | .non => true | .bl _ => true | .int _ => true | .str _ => true | _ => false
/-- s[k] = e, a new list; if c: s[k2].append(x) -/
def xPutA (i : Nat) (fk fe fc fk2 fx : F) (pp : Bool) : S := fun env W => match env[i]? with
  | some (.own (.k ks vs)) => (fe env W).st env fun r W1 => match r with
    | .fre (.l xs) => (fk env W1).st env fun rk W2 => match toKey rk.look with
      | some q => if ks.length < sz then
          (fc (env.set i (.own (.k (putKs ks q) (putVs ks vs q (.lst xs))))) W2).st (env.set i (.own (.k (putKs ks q) (putVs ks vs q (.lst xs))))) fun rc W3 => match rc with
            | .val (.bl false) => .ok .nx (env.set i (.own (.k (putKs ks q) (putVs ks vs q (.lst xs))))) W3
            | .val (.bl true) => (fk2 (env.set i (.own (.k (putKs ks q) (putVs ks vs q (.lst xs))))) W3).st (env.set i (.own (.k (putKs ks q) (putVs ks vs q (.lst xs))))) fun rk2 W4 => if toKey rk2.look = some q then
                (fx (env.set i (.own (.k (putKs ks q) (putVs ks vs q (.lst xs))))) W4).st (env.set i (.own (.k (putKs ks q) (putVs ks vs q (.lst xs))))) fun rx W5 => match rx with
                  | .val p => if flatA p && (decide (xs.length < sz) && pp) then .ok .nx (env.set i (.own (.k (putKs ks q) (putVs ks vs q (.lst (xs ++ [p])))))) W2 else .bad
                  | _ => .bad
              else .bad
            | _ => .bad
        else .bad
      | none => .bad
    | _ => .bad
  | _ => .bad
/-- the list or dict that is a field's own -/
def objF (env : Ev) (W : Om) (i : Nat) (f : Str) : Option (Nat × Ob × Ct) := match env[i]? with
  | some (.val (.obj n)) => match W[n]? with
    | some o => match o.fs.lookup f with
      | some (.own c) => some (n, o, c)
      | _ => none
    | none => none
  | _ => none
def isLc : Option (Nat × Ob × Ct) → Bool
  | some (_, _, .l _) => true
  | _ => false
def isDc : Option (Nat × Ob × Ct) → Bool
  | some (_, _, .k _ _) => true
  | some (_, _, .t _ _) => true
  | _ => false
def putO (W : Om) (n : Nat) (o : Ob) (f : Str) (s : Sl) : Om := W.set n ⟨o.cls, putS f s o.fs⟩
def slOf : R → Option Sl
  | .val p => some (.val p)
  | .fre c => some (.own c)
  | .bor _ => none
def xFset (fa : F) (f : Str) (fe : F) : S := fun env W => (fe env W).st env fun r W1 => (fa env W1).st env fun x W2 => match x with
  | .val (.obj n) => match W2[n]? with
    | some o => match slOf r with
      | some s => if o.fs.length < 900 then .ok .nx env (putO W2 n o f s) else .bad
      | none => .bad
    | none => .bad
  | _ => .bad
def xFput (i : Nat) (f : Str) (fk fv : F) (pk : Bool) : S := fun env W => (fv env W).st env fun r W1 => match r.v with
  | some v => if (objF env W1 i f).isNone then .bad else (fk env W1).st env fun rk W2 => if rk.isB || !pk then .bad else match objF env W2 i f with
    | some (n, o, c) => match putC c rk.look v with
      | some c' => .ok .nx env (putO W2 n o f (.own c'))
      | none => .bad
    | none => .bad
  | none => .bad
def xFapp (i : Nat) (f : Str) (fe : F) (pe : Bool) : S := fun env W => if !isLc (objF env W i f) then .bad else (fe env W).st env fun r W1 => match r.v with
  | some v => if pe then match objF env W1 i f with
      | some (n, o, .l xs) => if xs.length < sz then .ok .nx env (putO W1 n o f (.own (.l (xs ++ [v])))) else .bad
      | _ => .bad
    else .bad
  | none => .bad
def xFpop (i : Nat) (f : Str) (fk : F) (pk : Bool) : S := fun env W => if !isDc (objF env W i f) then .bad else (fk env W).st env fun rk W1 => if rk.isB || !pk then .bad else match objF env W1 i f with
  | some (n, o, c) => match dropC c rk.look with
    | some c' => .ok .nx env (putO W1 n o f (.own c'))
    | none => .bad
  | none => .bad
def xPop (i : Nat) (fk : F) : S := fun env W => match env[i]? with
  | some (.own c) => if isDc (some (0, ⟨0, []⟩, c)) then (fk env W).st env fun rk W1 => if rk.isB then .bad else match dropC c rk.look with
      | some c' => .ok .nx (env.set i (.own c')) W1
      | none => .bad
    else .bad
  | _ => .bad
def xPopl (j i : Nat) : S := fun env W => match env[i]? with
  | some (.own (.l xs)) => match xs.getLast? with
    | some v => .ok .nx ((env.set i (.own (.l xs.dropLast))).set j (.val v)) W
    | none => .bad
  | _ => .bad
def parE : List (Nat × Bool) → List R → Ev → Option Ev
  | [], [], env => some env
  | (i, false) :: is, r :: rs, env => match r.v with
    | some v => parE is rs (env.set i (.val v))
    | none => none
  | (i, true) :: is, .fre c :: rs, env => parE is rs (env.set i (.own c))
  | _, _, _ => none
def xPar (is : List (Nat × Bool)) (fs : List F) : S := fun env W => (evs fs env W).st env fun rs W1 => match parE is rs env with
  | some env' => .ok .nx env' W1
  | none => .bad
def xExp (fe : F) : S := fun env W => (fe env W).st env fun _ W1 => .ok .nx env W1
def xRais (c : Nat) : S := fun env W => .exc c env W
def xTryk (b : S) (d i j : Nat) : S := fun env W => match b env W with
  | .exc c env' W' => if esub c d then if i < env'.length then .ok .nx (((env'.set i (.val (.exc c))).set j (.val (.exc c))).set i .un) W' else .bad else .exc c env' W'
  | o => o
mutual
def ex (T : Tb) : CS → S
  | .ret e => xRet (ev T e)
  | .retO i => xRetO i
  | .asg tg e => xAsg tg (ev T e)
  | .own i e => xOwn i (ev T e)
  | .app i e => xApp i (ev T e)
  | .ext i e => xExt i (ev T e)
  | .ife c a b => xIf (ev T c) (exs T a) (exs T b)
  | .fr tg k es body kil => xFor tg k (evl T es) (exs T body) kil
  | .wh n c body kil => xWh kil (ev T c) (exs T body) n
  | .brk => xFl .brk
  | .cont => xFl .cont
  | .pass => xNx
  | .frz is s => xFrz is (ex T s)
  | .put i k v => xPut i (ev T k) (ev T v)
  | .putA i k e c k2 x => xPutA i (ev T k) (ev T e) (ev T c) (ev T k2) (ev T x) (pureE T.pu c && (pureE T.pu k2 && pureE T.pu x))
  | .exp e => xExp (ev T e)
  | .rais _ c => xRais c
  | .tryk body _ c i j => xTryk (exs T body) c i j
  | .fset a f e => xFset (ev T a) f (ev T e)
  | .fput i f k v => xFput i f (ev T k) (ev T v) (pureE T.pu k)
  | .fapp i f e => xFapp i f (ev T e) (pureE T.pu e)
  | .fpop i f k => xFpop i f (ev T k) (pureE T.pu k)
  | .pop i k => xPop i (ev T k)
  | .popl j i => xPopl j i
  | .par is es => xPar is (evl T es)
def exs (T : Tb) : List CS → S
  | [] => xNx
  | [s] => ex T s
  | s :: ss => xSeq (ex T s) (exs T ss)
end
/-- a def -/
structure Df where
  np : Nat
  nn : Nat
  body : List CS
  deriving Inhabited
def run (T : Tb) (d : Df) : Fn := fun vs W =>
  if vs.length = d.np then match exs T d.body (vs.map Sl.val ++ List.replicate (d.nn - d.np) Sl.un) W with
    | .ok .nx _ W' => .ok (.val .non) W'
    | .ok (.ret r) _ W' => .ok r W'
    | .exc c _ W' => .exc c W'
    | _ => .bad
  else .bad
/-- the defs of a program, by depth -/
def tb (ds : Nat → Option Df) (pu : Nat → Bool) : Nat → Tb
  | 0 => ⟨fun _ _ _ => .bad, pu⟩
  | n + 1 => ⟨fun f => match ds f with
    | some d => run (tb ds pu n) d
    | none => fun _ _ => .bad, pu⟩
end D

/-! D3: how plain values stand in the heap. -/
namespace D
open PySem PySem.Spec PyProof.Rows L2

/-- the written part; where the classes stand -/
structure Gx where
  K : PySem.W.Frag
  ca : Nat → Addr
  nx : Nat
  cc : Nat → Addr
  nc : Nat
/-- where the instances stand; what is never changed again; what is no frame's own -/
structure Wd where
  ob : List Addr
  F : Addr → Prop
  G : Addr → Prop

/-- a caught exception, kept -/
def ExH (cls : Value) (a : Addr) : HO := .ext fun h => ∃ (oe : Obj) (vs : Array Value), h.get? a = some oe ∧ Zc cls none oe ∧ oe.data = .fields vs
/-- a tuple of the written part -/
def WrT (K : PySem.W.Frag) (a : Addr) (vs : List V) : Prop :=
  ∃ (o : Obj) (its : Array Value) (n : Nat), K.lookup a = some o ∧ o.cls = .type "tuple" ∧ o.data = .seq its n ∧ its.size ≤ sizeLine ∧ Vals vs its.toList
/-- a list of the written part -/
def WrL (K : PySem.W.Frag) (a : Addr) (vs : List V) : Prop :=
  ∃ (o : Obj) (its : Array Value) (n : Nat), K.lookup a = some o ∧ o.cls = .type "list" ∧ o.dict = none ∧ o.data = .seq its n ∧ its.size ≤ sizeLine ∧ Vals vs its.toList
/-- a list that nobody changes -/
def LsOk (g : Gx) (w : Wd) (H : Hp) (a : Addr) (vs : List V) : Prop := (w.F a ∧ Rd H a (.lst vs)) ∨ WrL g.K a vs
theorem LsOk.sql {g : Gx} {w : Wd} {H : Hp} {a : Addr} {vs : List V} (h : LsOk g w H a vs) : SqL g.K H a vs := h.imp (fun h => h.2) id
/-- a tuple without a dict of its own -/
def Bare (o : Obj) : Prop := o.cls = .type "tuple" ∧ o.dict = none
/-- a tuple in the heap: one that looks like a schema is known to be bare -/
def tupH (b : Bool) (o : Obj) (vs : List V) : HO := if b then .frz o (.tup vs) else .tup vs
theorem tupH_rd {H : Hp} {a : Addr} {b : Bool} {o : Obj} {vs : List V} (h : H a = some (tupH b o vs)) : Rd H a (.tup vs) := by
  cases b with
  | true => exact .inr ⟨o, h⟩
  | false => exact .inl h
mutual
inductive Rp (g : Gx) (w : Wd) (H : Hp) : V → PV → Prop
  | non : Rp g w H .non .non
  | bl (b : Bool) : Rp g w H (.bl b) (.bl b)
  | int (i : Int) : Rp g w H (.int i) (.int i)
  | str (x : Str) (h : okS x = true) : Rp g w H (.str x) (.str x)
  | tup {a : Addr} {vs : List V} {xs : List PV} {o : Obj} (f : w.F a) (h : H a = some (tupH (slk xs) o vs)) (hb : Bare o) (r : Rps g w H vs xs) : Rp g w H (.ref a) (.tup xs)
  | lst {a : Addr} {vs : List V} {xs : List PV} (f : w.F a) (h : H a = some (.lst vs)) (r : Rps g w H vs xs) : Rp g w H (.ref a) (.lst xs)
  | dk {a : Addr} {kvs : List (Key × V)} {ks : List Key} {xs : List PV} (f : w.F a) (h : H a = some (.dK kvs)) (e : kvs.map (·.1) = ks) (r : Rps g w H (kvs.map (·.2)) xs) : Rp g w H (.ref a) (.dk ks xs)
  | dt {a : Addr} {kvs : List (List Key × V)} {ks : List (List Key)} {xs : List PV} (f : w.F a) (h : H a = some (.dT kvs)) (e : kvs.map (·.1) = ks) (r : Rps g w H (kvs.map (·.2)) xs) : Rp g w H (.ref a) (.dt ks xs)
  | obj {n : Nat} {a : Addr} (h : w.ob[n]? = some a) : Rp g w H (.ref a) (.obj n)
  | scr {a : Addr} {ns : List Int} (h : LsOk g w H a (ns.map V.int)) : Rp g w H (.ref a) (.scr ns)
  | exc {a : Addr} {c : Nat} (hc : c < g.nx) (f : w.F a) (h : H a = some (ExH (.ref (g.ca c)) a)) : Rp g w H (.ref a) (.exc c)
inductive Rps (g : Gx) (w : Wd) (H : Hp) : List V → List PV → Prop
  | nil : Rps g w H [] []
  | cons {v : V} {vs : List V} {x : PV} {xs : List PV} (r : Rp g w H v x) (t : Rps g w H vs xs) : Rps g w H (v :: vs) (x :: xs)
end

/-- behind a piece of code: what is never changed stands; what is a frame's own stands, and is no one else's -/
structure Ext (w : Wd) (H : Hp) (w' : Wd) (H' : Hp) : Prop where
  kF : ∀ a, w.F a → w'.F a ∧ H' a = H a
  kG : ∀ a, w.G a → w'.G a
  kR : ∀ a o, H a = some o → ¬ w.G a → H' a = some o ∧ (w'.G a → w'.F a ∧ ∃ vs, o = .tup vs)
  kO : ∀ (n : Nat) (a : Addr), w.ob[n]? = some a → w'.ob[n]? = some a
theorem Ext.refl (w : Wd) (H : Hp) : Ext w H w H := ⟨fun _ h => ⟨h, rfl⟩, fun _ h => h, fun _ _ h n => ⟨h, fun z => absurd z n⟩, fun _ _ h => h⟩
theorem Ext.trans {w w1 w2 : Wd} {H H1 H2 : Hp} (a : Ext w H w1 H1) (b : Ext w1 H1 w2 H2) : Ext w H w2 H2 where
  kF := fun c h => by
    obtain ⟨h1, e1⟩ := a.kF c h
    obtain ⟨h2, e2⟩ := b.kF c h1
    exact ⟨h2, e2.trans e1⟩
  kG := fun c h => b.kG c (a.kG c h)
  kR := fun c o h n => by
    obtain ⟨h1, n1⟩ := a.kR c o h n
    by_cases g1 : w1.G c
    · obtain ⟨f1, t⟩ := n1 g1
      obtain ⟨f2, e2⟩ := b.kF c f1
      exact ⟨e2.trans h1, fun _ => ⟨f2, t⟩⟩
    · exact b.kR c o h1 g1
  kO := fun n c h => b.kO n c (a.kO n c h)

theorem Ext.kN {w w' : Wd} {H H' : Hp} (e : Ext w H w' H') {a : Addr} {o : HO} (h : H a = some o) (n : ¬ w.G a) (t : ∀ vs, o ≠ .tup vs) : H' a = some o ∧ ¬ w'.G a := by
  obtain ⟨h1, h2⟩ := e.kR a o h n
  exact ⟨h1, fun z => (h2 z).2.elim t⟩
/-- what is never changed stands -/
structure Fz (w : Wd) (H : Hp) (w' : Wd) (H' : Hp) : Prop where
  kF : ∀ a, w.F a → w'.F a ∧ H' a = H a
  kO : ∀ (n : Nat) (a : Addr), w.ob[n]? = some a → w'.ob[n]? = some a
theorem Fz.refl (w : Wd) (H : Hp) : Fz w H w H := ⟨fun _ h => ⟨h, rfl⟩, fun _ _ h => h⟩
theorem Fz.trans {w w1 w2 : Wd} {H H1 H2 : Hp} (a : Fz w H w1 H1) (b : Fz w1 H1 w2 H2) : Fz w H w2 H2 where
  kF := fun c h => by
    obtain ⟨h1, e1⟩ := a.kF c h
    obtain ⟨h2, e2⟩ := b.kF c h1
    exact ⟨h2, e2.trans e1⟩
  kO := fun n c h => b.kO n c (a.kO n c h)
theorem Ext.fz {w w' : Wd} {H H' : Hp} (e : Ext w H w' H') : Fz w H w' H' := ⟨e.kF, e.kO⟩
mutual
theorem Rp.fz {g : Gx} {w w' : Wd} {H H' : Hp} (e : Fz w H w' H') : ∀ {v : V} {p : PV}, Rp g w H v p → Rp g w' H' v p
  | _, _, .non => .non
  | _, _, .bl b => .bl b
  | _, _, .int i => .int i
  | _, _, .str x h => .str x h
  | _, _, .tup f h hb r => .tup (e.kF _ f).1 ((e.kF _ f).2.trans h) hb (Rps.fz e r)
  | _, _, .lst f h r => .lst (e.kF _ f).1 ((e.kF _ f).2.trans h) (Rps.fz e r)
  | _, _, .dk f h q r => .dk (e.kF _ f).1 ((e.kF _ f).2.trans h) q (Rps.fz e r)
  | _, _, .dt f h q r => .dt (e.kF _ f).1 ((e.kF _ f).2.trans h) q (Rps.fz e r)
  | _, _, .obj h => .obj (e.kO _ _ h)
  | _, _, .scr h => .scr (h.imp (fun ⟨f, h⟩ => ⟨(e.kF _ f).1, by unfold Rd at h ⊢; rw [(e.kF _ f).2]; exact h⟩) id)
  | _, _, .exc hc f h => .exc hc (e.kF _ f).1 ((e.kF _ f).2.trans h)
theorem Rps.fz {g : Gx} {w w' : Wd} {H H' : Hp} (e : Fz w H w' H') : ∀ {vs : List V} {ps : List PV}, Rps g w H vs ps → Rps g w' H' vs ps
  | _, _, .nil => .nil
  | _, _, .cons r t => .cons (Rp.fz e r) (Rps.fz e t)
end
theorem Rp.mono {g : Gx} {w w' : Wd} {H H' : Hp} (e : Ext w H w' H') {v : V} {p : PV} (h : Rp g w H v p) : Rp g w' H' v p := h.fz e.fz
theorem Rps.mono {g : Gx} {w w' : Wd} {H H' : Hp} (e : Ext w H w' H') {vs : List V} {ps : List PV} (h : Rps g w H vs ps) : Rps g w' H' vs ps := h.fz e.fz
section
variable {g : Gx} {w : Wd} {H : Hp}
theorem Rps.length : ∀ {vs : List V} {ps : List PV}, Rps g w H vs ps → vs.length = ps.length
  | _, _, .nil => rfl
  | _, _, .cons _ t => congrArg Nat.succ (Rps.length t)
theorem Rps.append : ∀ {vs us : List V} {ps qs : List PV}, Rps g w H vs ps → Rps g w H us qs → Rps g w H (vs ++ us) (ps ++ qs)
  | _, _, _, _, .nil, s => s
  | _, _, _, _, .cons r t, s => .cons r (Rps.append t s)
theorem Rps.take : ∀ {vs : List V} {ps : List PV} (n : Nat), Rps g w H vs ps → Rps g w H (vs.take n) (ps.take n)
  | _, _, 0, _ => .nil
  | _, _, _ + 1, .nil => .nil
  | _, _, n + 1, .cons r t => .cons r (Rps.take n t)
theorem Rps.drop : ∀ {vs : List V} {ps : List PV} (n : Nat), Rps g w H vs ps → Rps g w H (vs.drop n) (ps.drop n)
  | _, _, 0, r => r
  | _, _, _ + 1, .nil => .nil
  | _, _, n + 1, .cons _ t => Rps.drop n t
theorem Rps.get : ∀ {vs : List V} {ps : List PV} {i : Nat} {p : PV}, Rps g w H vs ps → ps[i]? = some p → ∃ v, vs[i]? = some v ∧ Rp g w H v p
  | _, _, _, _, .nil, e => by simp at e
  | _, _, 0, _, .cons r _, e => by simp at e; subst e; exact ⟨_, rfl, r⟩
  | _, _, i + 1, p, .cons _ t, e => by
    obtain ⟨v, h1, h2⟩ := Rps.get (i := i) (p := p) t (by simpa using e)
    exact ⟨v, by simpa using h1, h2⟩
theorem Rps.getV : ∀ {vs : List V} {ps : List PV} {i : Nat} {v : V}, Rps g w H vs ps → vs[i]? = some v → ∃ p, ps[i]? = some p ∧ Rp g w H v p
  | _, _, _, _, .nil, e => by simp at e
  | _, _, 0, _, .cons r _, e => by simp at e; subst e; exact ⟨_, rfl, r⟩
  | _, _, i + 1, v, .cons _ t, e => by
    obtain ⟨p, h1, h2⟩ := Rps.getV (i := i) (v := v) t (by simpa using e)
    exact ⟨p, by simpa using h1, h2⟩
end

/-- a list or dict at a holds c -/
inductive CtOk (g : Gx) (w : Wd) (H : Hp) (a : Addr) : Ct → Prop
  | l {vs : List V} {xs : List PV} (e : H a = some (.lst vs)) (r : Rps g w H vs xs) : CtOk g w H a (.l xs)
  | k {kvs : List (Key × V)} {ks : List Key} {xs : List PV} (e : H a = some (.dK kvs)) (q : kvs.map (·.1) = ks) (r : Rps g w H (kvs.map (·.2)) xs) : CtOk g w H a (.k ks xs)
  | t {kvs : List (List Key × V)} {ks : List (List Key)} {xs : List PV} (e : H a = some (.dT kvs)) (q : kvs.map (·.1) = ks) (r : Rps g w H (kvs.map (·.2)) xs) : CtOk g w H a (.t ks xs)
theorem CtOk.exN {g : Gx} {w : Wd} {H : Hp} {a : Addr} {c : Ct} (h : CtOk g w H a c) : ∃ o, H a = some o ∧ ∀ vs, o ≠ .tup vs := by
  cases h with
  | l e _ => exact ⟨_, e, fun _ z => nomatch z⟩
  | k e _ _ => exact ⟨_, e, fun _ z => nomatch z⟩
  | t e _ _ => exact ⟨_, e, fun _ z => nomatch z⟩
theorem CtOk.ex {g : Gx} {w : Wd} {H : Hp} {a : Addr} {c : Ct} (h : CtOk g w H a c) : ∃ o, H a = some o := h.exN.elim fun o q => ⟨o, q.1⟩
theorem CtOk.mono {g : Gx} {w w' : Wd} {H H' : Hp} {a : Addr} {c : Ct} (h : CtOk g w H a c) (e : Ext w H w' H') (q : ∀ o, H a = some o → H' a = some o) : CtOk g w' H' a c := by
  cases h with
  | l e1 r => exact .l (q _ e1) (r.mono e)
  | k e1 e2 r => exact .k (q _ e1) e2 (r.mono e)
  | t e1 e2 r => exact .t (q _ e1) e2 (r.mono e)
/-- what is looked at -/
def Lk (g : Gx) (w : Wd) (H : Hp) (v : V) (p : PV) : Prop := Rp g w H v p ∨ ∃ a c, v = .ref a ∧ p = c.pv ∧ CtOk g w H a c
/-- a term's value -/
def RR (g : Gx) (w' : Wd) (H H' : Hp) (v : V) : R → Prop
  | .val p => Rp g w' H' v p
  | .bor c => ∃ a, v = .ref a ∧ CtOk g w' H' a c
  | .fre c => ∃ a, v = .ref a ∧ H a = none ∧ ¬ w'.G a ∧ CtOk g w' H' a c
theorem RR.lk {g : Gx} {w' : Wd} {H H' : Hp} {v : V} {r : R} (h : RR g w' H H' v r) : Lk g w' H' v r.look := by
  cases r with
  | val p => exact .inl h
  | bor c => obtain ⟨a, e, q⟩ := h; exact .inr ⟨a, c, e, rfl, q⟩
  | fre c => obtain ⟨a, e, _, _, q⟩ := h; exact .inr ⟨a, c, e, rfl, q⟩
theorem RR.next {g : Gx} {w1 w2 : Wd} {H H1 H2 : Hp} {v : V} {r : R} (h : RR g w1 H H1 v r) (e : Ext w1 H1 w2 H2) (q : r.isB = true → Same H1 H2) : RR g w2 H H2 v r := by
  cases r with
  | val p => exact Rp.mono e h
  | bor c => obtain ⟨a, e1, k⟩ := h; exact ⟨a, e1, k.mono e fun o z => q rfl a o z⟩
  | fre c =>
    obtain ⟨a, e1, hn, ng, k⟩ := h
    obtain ⟨o, z, t⟩ := k.exN
    exact ⟨a, e1, hn, (e.kN z ng t).2, k.mono e fun o' z' => (e.kR a o' z' ng).1⟩
theorem RR.weak {g : Gx} {w : Wd} {H H1 H' : Hp} {v : V} {r : R} (h : RR g w H1 H' v r) (q : ∀ a, H1 a = none → H a = none) : RR g w H H' v r := by
  cases r with
  | val p => exact h
  | bor c => exact h
  | fre c => obtain ⟨a, e1, hn, ng, k⟩ := h; exact ⟨a, e1, q a hn, ng, k⟩

theorem lookup_putS (f k : Str) (v : Sl) : ∀ fs : List (Str × Sl), (putS f v fs).lookup k = if k = f then some v else fs.lookup k
  | [] => by
    by_cases e : k = f
    · simp [putS, List.lookup_cons, e]
    · have : (k == f) = false := by simpa using e
      simp [putS, List.lookup_cons, e, this]
  | (q, x) :: r => by
    simp only [putS]
    by_cases e : q = f
    · subst e
      simp only [if_true, List.lookup_cons]
      by_cases e2 : k = q
      · subst e2; simp
      · have : (k == q) = false := by simpa using e2
        simp [this, e2]
    · simp only [if_neg e, List.lookup_cons, lookup_putS f k v r]
      by_cases e2 : k = q
      · subst e2; simp [e]
      · have : (k == q) = false := by simpa using e2
        simp [this]
theorem names_putS (f : Str) (v : Sl) : ∀ fs : List (Str × Sl), ∀ x, x ∈ (putS f v fs).map (·.1) → x = f ∨ x ∈ fs.map (·.1)
  | [], x, h => by simpa [putS] using h
  | (q, y) :: r, x, h => by
    simp only [putS] at h
    split at h
    · exact .inr (by simpa using h)
    · simp only [List.map_cons, List.mem_cons] at h ⊢
      rcases h with h | h
      · exact .inr (.inl h)
      · rcases names_putS f v r x h with h | h
        · exact .inl h
        · exact .inr (.inr h)
theorem nodup_putS (f : Str) (v : Sl) : ∀ fs : List (Str × Sl), (fs.map (·.1)).Nodup → ((putS f v fs).map (·.1)).Nodup
  | [], _ => by simp [putS]
  | (q, y) :: r, h => by
    simp only [List.map_cons, List.nodup_cons] at h
    simp only [putS]
    split
    · simpa using h
    · rename_i e
      simp only [List.map_cons, List.nodup_cons]
      refine ⟨fun z => ?_, nodup_putS f v r h.2⟩
      rcases names_putS f v r q z with z | z
      · exact e z
      · exact h.1 z
theorem putF_self {f : Str} {v : V} : ∀ {fs : List (Str × V)}, fs.lookup f = some v → L2.putF f v fs = fs
  | [], h => by simp at h
  | (q, y) :: r, h => by
    simp only [L2.putF]
    by_cases e : q = f
    · subst e
      simp only [List.lookup_cons, beq_self_eq_true] at h
      cases h
      simp
    · have e2 : (f == q) = false := by simpa using fun z : f = q => e z.symm
      simp only [List.lookup_cons, e2] at h
      rw [if_neg e, putF_self h]
/-- a field stands -/
def FlOk (g : Gx) (w : Wd) (H : Hp) : Sl → V → Prop
  | .un, _ => False
  | .val p, v => Rp g w H v p
  | .own c, v => ∃ b, v = .ref b ∧ w.G b ∧ ¬ w.F b ∧ CtOk g w H b c
inductive FsOk (g : Gx) (w : Wd) (H : Hp) : List (Str × Sl) → List (Str × V) → Prop
  | nil : FsOk g w H [] []
  | cons {f : Str} {s : Sl} {v : V} {l : List (Str × Sl)} {m : List (Str × V)} (h : FlOk g w H s v) (t : FsOk g w H l m) : FsOk g w H ((f, s) :: l) ((f, v) :: m)
theorem FsOk.length {g : Gx} {w : Wd} {H : Hp} : ∀ {l : List (Str × Sl)} {m : List (Str × V)}, FsOk g w H l m → m.length = l.length
  | _, _, .nil => rfl
  | _, _, .cons _ t => congrArg Nat.succ t.length
theorem FsOk.get {g : Gx} {w : Wd} {H : Hp} {f : Str} {s : Sl} : ∀ {l : List (Str × Sl)} {m : List (Str × V)}, FsOk g w H l m → l.lookup f = some s → ∃ v, m.lookup f = some v ∧ FlOk g w H s v
  | _, _, .nil, e => by simp at e
  | _, _, .cons (f := q) h t, e => by
    rw [List.lookup_cons] at e ⊢
    cases z : (f == q) with
    | true => rw [z] at e; cases e; exact ⟨_, rfl, h⟩
    | false => rw [z] at e; exact t.get e
theorem FsOk.none {g : Gx} {w : Wd} {H : Hp} {f : Str} : ∀ {l : List (Str × Sl)} {m : List (Str × V)}, FsOk g w H l m → l.lookup f = none → m.lookup f = none
  | _, _, .nil, e => rfl
  | _, _, .cons (f := q) h t, e => by
    rw [List.lookup_cons] at e ⊢
    cases z : (f == q) with
    | true => rw [z] at e; cases e
    | false => rw [z] at e; exact t.none e
theorem lookup_name {α : Type} {x : Str} {s : α} : ∀ {l : List (Str × α)}, l.lookup x = some s → x ∈ l.map (·.1)
  | [], e => by simp at e
  | p :: l, e => by
    rw [List.lookup_cons] at e
    cases z : (x == p.1) with
    | true => simp [eq_of_beq z]
    | false =>
      rw [z] at e
      simp only [List.map_cons, List.mem_cons]
      exact .inr (lookup_name e)
theorem FsOk.each {g : Gx} {w w' : Wd} {H H' : Hp} {q : Str} : ∀ {l : List (Str × Sl)} {m : List (Str × V)}, FsOk g w H l m → q ∉ l.map (·.1) → (l.map (·.1)).Nodup → (∀ x s v, x ≠ q → l.lookup x = some s → m.lookup x = some v → FlOk g w H s v → FlOk g w' H' s v) → FsOk g w' H' l m
  | _, _, .nil, _, _, _ => .nil
  | _, _, .cons (f := f1) (s := s1) (v := v1) h1 t1, hn, nd1, hk => by
    simp only [List.map_cons, List.mem_cons, not_or, List.nodup_cons] at hn nd1
    refine .cons (hk f1 s1 v1 (fun z => hn.1 z.symm) (by simp [List.lookup_cons]) (by simp [List.lookup_cons]) h1) (FsOk.each t1 hn.2 nd1.2 fun x s v hx e1 e2 h' => ?_)
    have hq : (x == f1) = false := by
      have : x ≠ f1 := fun z => nd1.1 (z ▸ lookup_name e1)
      simpa using this
    exact hk x s v hx (by rw [List.lookup_cons, hq]; exact e1) (by rw [List.lookup_cons, hq]; exact e2) h'
theorem FsOk.all {g : Gx} {w w' : Wd} {H H' : Hp} : ∀ {l : List (Str × Sl)} {m : List (Str × V)}, FsOk g w H l m → (l.map (·.1)).Nodup → (∀ x s v, l.lookup x = some s → m.lookup x = some v → FlOk g w H s v → FlOk g w' H' s v) → FsOk g w' H' l m
  | _, _, .nil, _, _ => .nil
  | _, _, .cons (f := f1) (s := s1) (v := v1) h1 t1, nd1, hk => by
    simp only [List.map_cons, List.nodup_cons] at nd1
    refine .cons (hk f1 s1 v1 (by simp [List.lookup_cons]) (by simp [List.lookup_cons]) h1) (FsOk.all t1 nd1.2 fun x s v e1 e2 h' => ?_)
    have hq : (x == f1) = false := by
      have : x ≠ f1 := fun z => nd1.1 (z ▸ lookup_name e1)
      simpa using this
    exact hk x s v (by rw [List.lookup_cons, hq]; exact e1) (by rw [List.lookup_cons, hq]; exact e2) h'
/-- field by field, with one put -/
theorem FsOk.put {g : Gx} {w w' : Wd} {H H' : Hp} {f : Str} {s : Sl} {v : V} (h : FlOk g w' H' s v) : ∀ {l : List (Str × Sl)} {m : List (Str × V)}, FsOk g w H l m → (l.map (·.1)).Nodup → (∀ k s v, k ≠ f → l.lookup k = some s → m.lookup k = some v → FlOk g w H s v → FlOk g w' H' s v) →
    FsOk g w' H' (putS f s l) (L2.putF f v m)
  | _, _, .nil, _, _ => .cons h .nil
  | _, _, .cons (f := q) (l := l) (m := m) h0 t, nd, k => by
    simp only [List.map_cons, List.nodup_cons] at nd
    have tail : ∀ x s v, x ≠ f → l.lookup x = some s → m.lookup x = some v → FlOk g w H s v → FlOk g w' H' s v := fun x s' v' hx e1 e2 h' => by
      have hq : (x == q) = false := by
        have : x ≠ q := fun z => nd.1 (z ▸ lookup_name e1)
        simpa using this
      exact k x s' v' hx (by rw [List.lookup_cons, hq]; exact e1) (by rw [List.lookup_cons, hq]; exact e2) h'
    simp only [putS, L2.putF]
    by_cases e : q = f
    · subst e
      rw [if_pos rfl, if_pos rfl]
      exact .cons h (t.each nd.1 nd.2 tail)
    · rw [if_neg e, if_neg e]
      exact .cons (k q _ _ e (by simp [List.lookup_cons]) (by simp [List.lookup_cons]) h0) (FsOk.put h t nd.2 tail)
/-- an instance stands -/
structure ObAt (g : Gx) (w : Wd) (H : Hp) (a : Addr) (o : Ob) : Prop where
  cl : o.cls < g.nc
  nd : (o.fs.map (·.1)).Nodup
  hG : w.G a
  hF : ¬ w.F a
  st : ∃ dx fs, H a = some (.ins (g.cc o.cls) dx fs) ∧ FsOk g w H o.fs fs
/-- field f of instance n is a list or dict of its own, at b -/
def OwnAt (w : Wd) (W : Om) (H : Hp) (n : Nat) (f : Str) (b : Addr) : Prop := ∃ (a : Addr) (o : Ob) (C dx : Addr) (fs : List (Str × V)) (c : Ct), w.ob[n]? = some a ∧ W[n]? = some o ∧ H a = some (.ins C dx fs) ∧ o.fs.lookup f = some (.own c) ∧ fs.lookup f = some (.ref b)
/-- the objects stand -/
structure WOk (g : Gx) (w : Wd) (W : Om) (H : Hp) : Prop where
  FG : ∀ a, w.F a → w.G a
  tr : ∀ a, w.G a → ∃ o, H a = some o
  ol : w.ob.length = W.length
  oi : ∀ (n m : Nat) (a : Addr), w.ob[n]? = some a → w.ob[m]? = some a → n = m
  og : ∀ (n : Nat) (a : Addr) (o : Ob), w.ob[n]? = some a → W[n]? = some o → ObAt g w H a o
  oc : ∀ (n : Nat) (f : Str) (n' : Nat) (f' : Str) (b : Addr), OwnAt w W H n f b → OwnAt w W H n' f' b → n = n' ∧ f = f'
theorem CtOk.fz {g : Gx} {w w' : Wd} {H H' : Hp} {a : Addr} {c : Ct} (h : CtOk g w H a c) (e : Fz w H w' H') (q : H' a = H a) : CtOk g w' H' a c := by
  cases h with
  | l e1 r => exact .l (q.trans e1) (r.fz e)
  | k e1 e2 r => exact .k (q.trans e1) e2 (r.fz e)
  | t e1 e2 r => exact .t (q.trans e1) e2 (r.fz e)
/-- at another world, none of the instances touched -/
theorem WOk.mono {g : Gx} {w w' : Wd} {W : Om} {H H' : Hp} (wk : WOk g w W H) (ob : w'.ob = w.ob) (hF : ∀ a, w.F a → w'.F a) (hG : ∀ a, w.G a → w'.G a ∧ H' a = H a) (hN : ∀ a, w'.F a → w.F a ∨ ¬ w.G a ∨ ∃ vs, H a = some (.tup vs)) (FG : ∀ a, w'.F a → w'.G a) (tr : ∀ a, w'.G a → ∃ o, H' a = some o) : WOk g w' W H' := by
  have fz : Fz w H w' H' := ⟨fun a f => ⟨hF a f, (hG a (wk.FG a f)).2⟩, fun n a h => by rw [ob]; exact h⟩
  have back : ∀ n f b, OwnAt w' W H' n f b → OwnAt w W H n f b := fun n f b ⟨a, o, C, dx, fs, c, h1, h2, h3, h4, h5⟩ => by
    rw [ob] at h1
    exact ⟨a, o, C, dx, fs, c, h1, h2, (hG a (wk.og n a o h1 h2).hG).2.symm.trans h3, h4, h5⟩
  refine ⟨FG, tr, by rw [ob]; exact wk.ol, by rw [ob]; exact wk.oi, fun n a o h1 h2 => ?_, fun n f n' f' b h h' => wk.oc n f n' f' b (back _ _ _ h) (back _ _ _ h')⟩
  rw [ob] at h1
  obtain ⟨h3, h4, h5, h6, dx, fs, h7, h8⟩ := wk.og n a o h1 h2
  refine ⟨h3, h4, (hG a h5).1, fun z => ?_, dx, fs, (hG a h5).2.trans h7, ?_⟩
  · rcases hN a z with q | q | ⟨vs, q⟩
    · exact h6 q
    · exact q h5
    · rw [h7] at q; cases q
  · refine h8.all h4 fun x s v _ _ h => ?_
    cases s with
    | un => exact h
    | val p => exact Rp.fz fz h
    | own c =>
      obtain ⟨b, rfl, h9, h10, h11⟩ := h
      refine ⟨b, rfl, (hG b h9).1, fun z => ?_, h11.fz fz (hG b h9).2⟩
      rcases hN b z with q | q | ⟨vs, q⟩
      · exact h10 q
      · exact q h9
      · obtain ⟨ob, e1, e2⟩ := h11.exN
        rw [e1] at q
        exact e2 vs (Option.some.inj q)
/-- one field of one instance is put -/
theorem WOk.put1 {g : Gx} {w w' : Wd} {W : Om} {H H' : Hp} (wk : WOk g w W H) {n : Nat} {a C dx : Addr} {o : Ob} {fs : List (Str × V)} {f : Str} {s : Sl} {v : V} (ob : w'.ob = w.ob) (FG : ∀ a, w'.F a → w'.G a) (tr : ∀ a, w'.G a → ∃ o, H' a = some o) (fz : Fz w H w' H')
    (hn : w.ob[n]? = some a) (ho : W[n]? = some o) (ha : H a = some (.ins C dx fs)) (ha' : H' a = some (.ins C dx (L2.putF f v fs)))
    (hob : ∀ m b, w.ob[m]? = some b → w'.G b ∧ ¬ w'.F b ∧ (m ≠ n → H' b = H b)) (hown : ∀ m k b, OwnAt w W H m k b → ¬ (m = n ∧ k = f) → H' b = H b ∧ w'.G b ∧ ¬ w'.F b)
    (hs : FlOk g w' H' s v) (hap : ∀ c b, s = .own c → v = .ref b → ∀ m k, ¬ (m = n ∧ k = f) → ¬ OwnAt w W H m k b) : WOk g w' (W.set n ⟨o.cls, putS f s o.fs⟩) H' := by
  have hnl : n < W.length := (List.getElem?_eq_some_iff.mp ho).1
  have back : ∀ m k b, OwnAt w' (W.set n ⟨o.cls, putS f s o.fs⟩) H' m k b → (¬ (m = n ∧ k = f) ∧ OwnAt w W H m k b) ∨ ((m = n ∧ k = f) ∧ v = .ref b ∧ ∃ c, s = .own c) := fun m k b ⟨a1, o1, C1, d1, fs1, c1, h1, h2, h3, h4, h5⟩ => by
    rw [ob] at h1
    by_cases e : m = n
    · subst e
      rw [List.getElem?_set_self hnl] at h2
      cases h2
      rw [hn] at h1
      cases h1
      rw [ha'] at h3
      cases h3
      rw [lookup_putS] at h4
      rw [L2.lookup_putF] at h5
      by_cases e2 : k = f
      · rw [if_pos e2] at h4 h5
        exact .inr ⟨⟨rfl, e2⟩, Option.some.inj h5, c1, Option.some.inj h4⟩
      · rw [if_neg e2] at h4 h5
        exact .inl ⟨fun z => e2 z.2, a, o, C, dx, fs, c1, hn, ho, ha, h4, h5⟩
    · rw [List.getElem?_set_ne fun z => e z.symm] at h2
      exact .inl ⟨fun z => e z.1, a1, o1, C1, d1, fs1, c1, h1, h2, ((hob m a1 h1).2.2 e).symm.trans h3, h4, h5⟩
  have keep : ∀ m k s1 v1, ¬ (m = n ∧ k = f) → (∀ c b, s1 = .own c → v1 = .ref b → OwnAt w W H m k b) → FlOk g w H s1 v1 → FlOk g w' H' s1 v1 := fun m k s1 v1 hne hw h => by
    cases s1 with
    | un => exact h
    | val p => exact Rp.fz fz h
    | own c =>
      obtain ⟨b, rfl, h9, h10, h11⟩ := h
      obtain ⟨q1, q2, q3⟩ := hown m k b (hw c b rfl rfl) hne
      exact ⟨b, rfl, q2, q3, h11.fz fz q1⟩
  refine ⟨FG, tr, by rw [ob, List.length_set]; exact wk.ol, by rw [ob]; exact wk.oi, fun m a1 o1 h1 h2 => ?_, fun m k m' k' b h h' => ?_⟩
  · rw [ob] at h1
    by_cases e : m = n
    · subst e
      rw [List.getElem?_set_self hnl] at h2
      cases h2
      rw [hn] at h1
      cases h1
      obtain ⟨h3, h4, h5, h6, dx1, fs1, h7, h8⟩ := wk.og m a o hn ho
      rw [ha] at h7
      cases h7
      refine ⟨h3, nodup_putS f s o.fs h4, (hob m a hn).1, (hob m a hn).2.1, dx, _, ha', FsOk.put hs h8 h4 fun k s1 v1 hk e1 e2 h => keep m k s1 v1 (fun z => hk z.2) (fun c b z1 z2 => ?_) h⟩
      subst z1
      subst z2
      exact ⟨a, o, _, dx, fs, c, hn, ho, ha, e1, e2⟩
    · rw [List.getElem?_set_ne fun z => e z.symm] at h2
      obtain ⟨h3, h4, h5, h6, dx1, fs1, h7, h8⟩ := wk.og m a1 o1 h1 h2
      refine ⟨h3, h4, (hob m a1 h1).1, (hob m a1 h1).2.1, dx1, fs1, ((hob m a1 h1).2.2 e).trans h7, ?_⟩
      exact h8.all h4 fun k s1 v1 e1 e2 h => keep m k s1 v1 (fun z => e z.1) (fun c b z1 z2 => by
        subst z1
        subst z2
        exact ⟨a1, o1, _, dx1, fs1, c, h1, h2, h7, e1, e2⟩) h
  · rcases back m k b h with ⟨n1, q1⟩ | ⟨⟨rfl, rfl⟩, q1, c1, q2⟩
    · rcases back m' k' b h' with ⟨n2, q3⟩ | ⟨⟨rfl, rfl⟩, q3, c3, q4⟩
      · exact wk.oc _ _ _ _ _ q1 q3
      · exact absurd q1 (hap c3 b q4 q3 m k n1)
    · rcases back m' k' b h' with ⟨n2, q3⟩ | ⟨⟨rfl, rfl⟩, q3, c3, q4⟩
      · exact absurd q3 (hap c1 b q2 q1 m' k' n2)
      · exact ⟨rfl, rfl⟩

def SlOk (g : Gx) (w0 : Wd) (H0 : Hp) (w : Wd) (H : Hp) (o : Option (Option V)) : Sl → Prop
  | .un => True
  | .val p => ∃ v, o = some (some v) ∧ Rp g w H v p
  | .own c => ∃ a, o = some (some (.ref a)) ∧ H0 a = none ∧ ¬ w.G a ∧ CtOk g w H a c
/-- the state of a body: w0, H0 its entry; pf: it changes nothing that stood -/
structure Rel (g : Gx) (pf : Bool) (w0 : Wd) (H0 : Hp) (w : Wd) (env : Ev) (W : Om) (σ : L2.St) (H : Hp) : Prop where
  wk : WOk g w W H
  ext : Ext w0 H0 w H
  tr0 : ∀ a, H a = none → H0 a = none
  pur : pf = true → Same H0 H
  len : env.length = σ.length
  sl : ∀ (i : Nat) (s : Sl), env[i]? = some s → SlOk g w0 H0 w H σ[i]? s
  dj : ∀ (i j : Nat) (c d : Ct) (a : Addr), i ≠ j → env[i]? = some (.own c) → env[j]? = some (.own d) → σ[i]? = some (some (.ref a)) → σ[j]? ≠ some (some (V.ref a))

section
variable {g : Gx} {pf : Bool} {w0 w w' : Wd} {H0 H H' : Hp} {env : Ev} {W W' : Om} {σ : L2.St}
theorem SlOk.mono {o : Option (Option V)} {s : Sl} (h : SlOk g w0 H0 w H o s) (e : Ext w H w' H') : SlOk g w0 H0 w' H' o s := by
  cases s with
  | un => trivial
  | val p => obtain ⟨v, e1, r⟩ := h; exact ⟨v, e1, r.mono e⟩
  | own c =>
    obtain ⟨a, e1, hn, ng, k⟩ := h
    obtain ⟨ob, z, t⟩ := k.exN
    exact ⟨a, e1, hn, (e.kN z ng t).2, k.mono e fun o' z' => (e.kR a o' z' ng).1⟩
/-- the slots stand behind an expression -/
theorem Rel.next (r : Rel g pf w0 H0 w env W σ H) (e : Ext w H w' H') (wk : WOk g w' W' H') (t : ∀ a, H' a = none → H a = none) (p : pf = true → Same H H') : Rel g pf w0 H0 w' env W' σ H' where
  wk := wk
  ext := r.ext.trans e
  tr0 := fun a h => r.tr0 a (t a h)
  pur := fun h => (r.pur h).trans (p h)
  len := r.len
  sl := fun i s h => (r.sl i s h).mono e
  dj := r.dj

/-- a new object, nobody's yet -/
theorem upd_none {a b : Addr} {o : HO} (h : upd H a o b = none) : H b = none := by
  by_cases e : b = a
  · subst e; rw [upd_same] at h; cases h
  · rw [upd_ne e] at h; exact h
theorem upd_keep {a b : Addr} {o u : HO} (h : H a = none) (e : H b = some u) : upd H a o b = some u := by
  rw [upd_ne (ne_of_none e h)]; exact e
theorem Ext.laid {a : Addr} {o : HO} (wk : WOk g w W H) (h : H a = none) : Ext w H w (upd H a o) where
  kF := fun b f => by
    obtain ⟨u, e⟩ := wk.tr b (wk.FG b f)
    exact ⟨f, by rw [e]; exact upd_keep h e⟩
  kG := fun _ h => h
  kR := fun b u e n => ⟨upd_keep h e, fun z => absurd z n⟩
  kO := fun _ _ h => h
theorem WOk.laid {a : Addr} {o : HO} (wk : WOk g w W H) (h : H a = none) : WOk g w W (upd H a o) :=
  wk.mono rfl (fun _ f => f) (fun b f => ⟨f, by
    obtain ⟨u, e⟩ := wk.tr b f
    rw [e]
    exact upd_keep h e⟩) (fun _ f => .inl f) wk.FG fun b f => by
    obtain ⟨u, e⟩ := wk.tr b f
    exact ⟨u, upd_keep h e⟩
theorem WOk.fresh {a : Addr} (wk : WOk g w W H) (h : H a = none) : ¬ w.G a := fun z => by
  obtain ⟨u, e⟩ := wk.tr a z
  rw [h] at e; cases e
/-- a is never changed again -/
def Wd.frz (w : Wd) (a : Addr) : Wd := ⟨w.ob, fun b => b = a ∨ w.F b, fun b => b = a ∨ w.G b⟩
theorem WOk.frz {a : Addr} {o : HO} (wk : WOk g w W H) (h : H a = some o) (ng : ¬ w.G a) : WOk g (w.frz a) W H :=
  wk.mono rfl (fun _ f => .inr f) (fun _ f => ⟨.inr f, rfl⟩) (fun b f => f.elim (fun z => .inr (.inl (z ▸ ng))) .inl) (fun b f => f.imp id (wk.FG b)) fun b f => by
    rcases f with rfl | f
    · exact ⟨o, h⟩
    · exact wk.tr b f
theorem Rp.frz {a : Addr} {v : V} {p : PV} (h : Rp g w H v p) : Rp g (w.frz a) H v p := by
  have e : Ext w H ⟨w.ob, fun b => b = a ∨ w.F b, w.G⟩ H := ⟨fun _ h => ⟨.inr h, rfl⟩, fun _ h => h, fun _ _ h n => ⟨h, fun z => absurd z n⟩, fun _ _ h => h⟩
  have e2 := h.mono e
  have e3 : ∀ {v p}, Rp g ⟨w.ob, fun b => b = a ∨ w.F b, w.G⟩ H v p → Rp g (w.frz a) H v p := by
    intro v p h
    refine Rp.rec (motive_1 := fun v p _ => Rp g (w.frz a) H v p) (motive_2 := fun vs ps _ => Rps g (w.frz a) H vs ps) ?_ ?_ ?_ ?_ ?_ ?_ ?_ ?_ ?_ ?_ ?_ ?_ ?_ h
    · exact .non
    · exact .bl
    · exact .int
    · exact .str
    · exact fun f h hb _ r => .tup f h hb r
    · exact fun f h _ r => .lst f h r
    · exact fun f h e _ r => .dk f h e r
    · exact fun f h e _ r => .dt f h e r
    · exact fun h => .obj h
    · exact fun h => .scr (h.imp (fun ⟨f, h⟩ => ⟨f, h⟩) id)
    · exact fun hc f h => .exc hc f h
    · exact .nil
    · exact fun _ _ r t => .cons r t
  exact e3 e2
theorem Rps.frz {a : Addr} : ∀ {vs : List V} {ps : List PV}, Rps g w H vs ps → Rps g (w.frz a) H vs ps
  | _, _, .nil => .nil
  | _, _, .cons r t => .cons r.frz (Rps.frz t)
theorem CtOk.frz {a b : Addr} {c : Ct} (h : CtOk g w H b c) : CtOk g (w.frz a) H b c := by
  cases h with
  | l e1 r => exact .l e1 r.frz
  | k e1 e2 r => exact .k e1 e2 r.frz
  | t e1 e2 r => exact .t e1 e2 r.frz
/-- what is frozen is a plain value -/
theorem CtOk.pv {a : Addr} {c : Ct} (h : CtOk g w H a c) : Rp g (w.frz a) H (.ref a) c.pv := by
  cases h with
  | l e1 r => exact .lst (.inl rfl) e1 r.frz
  | k e1 e2 r => exact .dk (.inl rfl) e1 e2 r.frz
  | t e1 e2 r => exact .dt (.inl rfl) e1 e2 r.frz
/-- a, new since H, is frozen -/
theorem Ext.frz {a : Addr} (e : Ext w H w' H') (h : H a = none) : Ext w H (w'.frz a) H' where
  kF := fun b f => by
    obtain ⟨h1, e1⟩ := e.kF b f
    exact ⟨.inr h1, e1⟩
  kG := fun b f => .inr (e.kG b f)
  kR := fun b o q n => by
    obtain ⟨h1, n1⟩ := e.kR b o q n
    refine ⟨h1, fun z => ?_⟩
    rcases z with rfl | z
    · rw [h] at q; cases q
    · obtain ⟨f, t⟩ := n1 z
      exact ⟨.inr f, t⟩
  kO := e.kO
theorem Rel.frz {a : Addr} {o : HO} (r : Rel g pf w0 H0 w env W σ H) (h : H a = some o) (ng : ¬ w.G a) (h0 : H0 a = none) (ns : ∀ (i : Nat) (c : Ct), env[i]? = some (.own c) → σ[i]? ≠ some (some (V.ref a))) : Rel g pf w0 H0 (w.frz a) env W σ H where
  wk := r.wk.frz h ng
  ext := r.ext.frz h0
  tr0 := r.tr0
  pur := r.pur
  len := r.len
  sl := fun i s e => by
    have q := r.sl i s e
    cases s with
    | un => trivial
    | val p => obtain ⟨v, e1, k⟩ := q; exact ⟨v, e1, k.frz⟩
    | own c =>
      obtain ⟨b, e1, hn, ng, k⟩ := q
      refine ⟨b, e1, hn, fun z => ?_, k.frz⟩
      rcases z with rfl | z
      · exact ns i c e e1
      · exact ng z
  dj := r.dj
/-- tuples that stand are never changed -/
def Wd.frzT (w : Wd) (P : Addr → Prop) : Wd := ⟨w.ob, fun b => P b ∨ w.F b, fun b => P b ∨ w.G b⟩
theorem Ext.frzT {P : Addr → Prop} (hP : ∀ b, P b → ∃ vs, H b = some (.tup vs)) : Ext w H (w.frzT P) H where
  kF := fun _ f => ⟨.inr f, rfl⟩
  kG := fun _ f => .inr f
  kR := fun b o h n => ⟨h, fun z => z.elim (fun p => by
    obtain ⟨vs, e⟩ := hP b p
    rw [h] at e
    exact ⟨.inl p, vs, Option.some.inj e⟩) fun z => absurd z n⟩
  kO := fun _ _ h => h
theorem WOk.frzT {P : Addr → Prop} (wk : WOk g w W H) (hP : ∀ b, P b → ∃ vs, H b = some (.tup vs)) : WOk g (w.frzT P) W H :=
  wk.mono rfl (fun _ f => .inr f) (fun _ f => ⟨.inr f, rfl⟩) (fun b f => f.elim (fun z => .inr (.inr (hP b z))) .inl) (fun b f => f.imp id (wk.FG b)) fun b f => by
    rcases f with f | f
    · obtain ⟨vs, e⟩ := hP b f
      exact ⟨_, e⟩
    · exact wk.tr b f
theorem Rel.frzT {P : Addr → Prop} (r : Rel g pf w0 H0 w env W σ H) (hP : ∀ b, P b → ∃ vs, H b = some (.tup vs)) : Rel g pf w0 H0 (w.frzT P) env W σ H := r.next (Ext.frzT hP) (r.wk.frzT hP) (fun _ h => h) fun _ => Same.refl H
end
end D

/-! D4: data; results; terms one after another. -/
namespace D
open PySem PySem.Spec PyProof.Rows L2

/-! ### data -/
mutual
def toD : PV → PyData
  | .non => .none
  | .bl b => .bool b
  | .int i => .int i
  | .str x => .str x
  | .tup xs => .tuple (toDs xs)
  | .lst xs => .list (toDs xs)
  | _ => .dict []
def toDs : List PV → List PyData
  | [] => []
  | x :: xs => toD x :: toDs xs
end
mutual
theorem eqv_toD : ∀ (n m : Nat) (p q : PV), dat n p = true → dat m q = true → PyData.eqv (toD p) (toD q) = eqv p q
  | n, m, p, q => by
    intro h1 h2
    cases p <;> cases q <;> first
      | (simp only [toD, PyData.eqv, eqv]; done)
      | (exfalso; simp [dat] at h1; done)
      | (exfalso; simp [dat] at h2; done)
      | (rename_i xs ys
         simp only [toD, PyData.eqv, eqv]
         cases n with
         | zero => simp [dat] at h1
         | succ n => cases m with
           | zero => simp [dat] at h2
           | succ m =>
             simp only [dat] at h1 h2
             exact eqvs_toD n m xs ys h1 h2)
theorem eqvs_toD : ∀ (n m : Nat) (xs ys : List PV), dats n xs = true → dats m ys = true → PyData.eqvAll (toDs xs) (toDs ys) = eqvs xs ys
  | _, _, [], [], _, _ => by simp only [toDs, PyData.eqvAll, eqvs]
  | _, _, [], _ :: _, _, _ => by simp only [toDs, PyData.eqvAll, eqvs]
  | _, _, _ :: _, [], _, _ => by simp only [toDs, PyData.eqvAll, eqvs]
  | n, m, x :: xs, y :: ys, h1, h2 => by
    simp only [dats, Bool.and_eq_true] at h1 h2
    simp only [toDs, PyData.eqvAll, eqvs, eqv_toD n m x y h1.1 h2.1, eqvs_toD n m xs ys h1.2 h2.2]
end
section
variable {g : Gx} {w : Wd} {H : Hp}
theorem sqlOf {K : PySem.W.Frag} {a : Addr} {vs : List V} (h : H a = some (.lst vs)) : SqL K H a vs := SqL.of h
mutual
theorem Rp.dp : ∀ (n : Nat) {v : V} {p : PV}, Rp g w H v p → dat n p = true → Dp g.K H v (toD p) ∧ (toD p).canLay0 = true ∧ (toD p).depth ≤ n
  | n, _, _, .non, _ => by simp only [toD]; exact ⟨.non, by simp [PyData.canLay0], by simp [PyData.depth]⟩
  | n, _, _, .bl b, _ => by simp only [toD]; exact ⟨.bl b, by simp [PyData.canLay0], by simp [PyData.depth]⟩
  | n, _, _, .int i, _ => by simp only [toD]; exact ⟨.int i, by simp [PyData.canLay0], by simp [PyData.depth]⟩
  | n, _, _, .str x h, _ => by simp only [toD]; exact ⟨.str x, by simpa [PyData.canLay0] using (Bool.and_eq_true_iff.mp h).1, by simp [PyData.depth]⟩
  | 0, _, _, .tup _ _ _ _, h => by simp [dat] at h
  | 0, _, _, .lst _ _ _, h => by simp [dat] at h
  | n + 1, _, _, .tup f e _ r, h => by
    simp only [dat] at h
    obtain ⟨h1, h2, h3⟩ := Rps.dp n r h
    simp only [toD]
    exact ⟨.tup (.inl (tupH_rd e)) h1, by simpa [PyData.canLay0] using h2, by simpa [PyData.depth] using h3⟩
  | n + 1, _, _, .lst f e r, h => by
    simp only [dat] at h
    obtain ⟨h1, h2, h3⟩ := Rps.dp n r h
    simp only [toD]
    exact ⟨.lst (SqL.of e) h1, by simpa [PyData.canLay0] using h2, by simpa [PyData.depth] using h3⟩
  | n, _, _, .dk _ _ _ _, h => by cases n <;> simp [dat] at h
  | n, _, _, .dt _ _ _ _, h => by cases n <;> simp [dat] at h
  | n, _, _, .obj _, h => by cases n <;> simp [dat] at h
  | n, _, _, .scr _, h => by cases n <;> simp [dat] at h
  | n, _, _, .exc _ _ _, h => by cases n <;> simp [dat] at h
theorem Rps.dp : ∀ (n : Nat) {vs : List V} {ps : List PV}, Rps g w H vs ps → dats n ps = true → DpAll g.K H vs (toDs ps) ∧ PyData.canLayAll0 (toDs ps) = true ∧ PyData.depthAll (toDs ps) ≤ n
  | n, _, _, .nil, _ => by simp only [toDs]; exact ⟨.nil, by simp [PyData.canLayAll0], by simp [PyData.depthAll]⟩
  | n, _, _, .cons r t, h => by
    simp only [dats, Bool.and_eq_true] at h
    obtain ⟨a1, a2, a3⟩ := Rp.dp n r h.1
    obtain ⟨b1, b2, b3⟩ := Rps.dp n t h.2
    simp only [toDs]
    exact ⟨.cons a1 b1, by simp [PyData.canLayAll0, a2, b2], by simp only [PyData.depthAll]; omega⟩
end
theorem Lk.dp {v : V} {p : PV} (h : Lk g w H v p) (d : dat 60 p = true) : Dp g.K H v (toD p) ∧ SeqAt.shaped (toD p) = true := by
  have fin : ∀ {v : V} {p : PV}, (Dp g.K H v (toD p) ∧ (toD p).canLay0 = true ∧ (toD p).depth ≤ 60) → Dp g.K H v (toD p) ∧ SeqAt.shaped (toD p) = true := fun ⟨h1, h2, h3⟩ => ⟨h1, by
    unfold SeqAt.shaped
    rw [h2, Bool.true_and, decide_eq_true_eq]
    omega⟩
  rcases h with h | ⟨a, c, rfl, rfl, k⟩
  · exact fin (h.dp 60 d)
  · cases k with
    | l e r =>
      refine fin ?_
      simp only [Ct.pv, dat] at d
      obtain ⟨h1, h2, h3⟩ := r.dp 59 d
      simp only [Ct.pv, toD]
      exact ⟨.lst (SqL.of e) h1, by simpa [PyData.canLay0] using h2, by simpa [PyData.depth] using h3⟩
    | k e q r => simp [Ct.pv, dat] at d
    | t e q r => simp [Ct.pv, dat] at d

/-! ### looked at -/
theorem Ct.pv_ne {c : Ct} : (∀ i, c.pv ≠ .int i) ∧ (∀ x, c.pv ≠ .str x) ∧ (∀ b, c.pv ≠ .bl b) ∧ c.pv ≠ .non ∧ (∀ xs, c.pv ≠ .tup xs) ∧ (∀ n, c.pv ≠ .obj n) ∧ (∀ n, c.pv ≠ .exc n) ∧ (∀ n, c.pv ≠ .scr n) := by
  cases c <;> simp [Ct.pv]
theorem Lk.int {v : V} {i : Int} (h : Lk g w H v (.int i)) : v = .int i := by
  rcases h with h | ⟨a, c, _, e, _⟩
  · cases h; rfl
  · exact absurd e.symm (Ct.pv_ne.1 i)
theorem Lk.str {v : V} {x : Str} (h : Lk g w H v (.str x)) : v = .str x ∧ okS x = true := by
  rcases h with h | ⟨a, c, _, e, _⟩
  · cases h with
    | str _ q => exact ⟨rfl, q⟩
  · exact absurd e.symm (Ct.pv_ne.2.1 x)
theorem Lk.bl {v : V} {b : Bool} (h : Lk g w H v (.bl b)) : v = .bl b := by
  rcases h with h | ⟨a, c, _, e, _⟩
  · cases h; rfl
  · exact absurd e.symm (Ct.pv_ne.2.2.1 b)
theorem Rp.bl' {v : V} {b : Bool} (h : Rp g w H v (.bl b)) : v = .bl b := by cases h; rfl
theorem Lk.lst {v : V} {xs : List PV} (h : Lk g w H v (.lst xs)) : ∃ a vs, v = .ref a ∧ H a = some (.lst vs) ∧ Rps g w H vs xs := by
  rcases h with h | ⟨a, c, e1, e, k⟩
  · cases h with
    | lst f e r => exact ⟨_, _, rfl, e, r⟩
  · cases k with
    | l e2 r => cases e; exact ⟨a, _, e1, e2, r⟩
    | k e2 q r => cases e
    | t e2 q r => cases e
theorem Lk.scr {v : V} {ns : List Int} (h : Lk g w H v (.scr ns)) : ∃ a, v = .ref a ∧ LsOk g w H a (ns.map V.int) := by
  rcases h with h | ⟨a, c, _, e, _⟩
  · cases h with
    | scr h => exact ⟨_, rfl, h⟩
  · exact absurd e.symm (Ct.pv_ne.2.2.2.2.2.2.2 ns)
theorem Lk.tup {v : V} {xs : List PV} (h : Lk g w H v (.tup xs)) : ∃ a vs, v = .ref a ∧ Rd H a (.tup vs) ∧ Rps g w H vs xs := by
  rcases h with h | ⟨a, c, e1, e, k⟩
  · cases h with
    | tup f e _ r => exact ⟨_, _, rfl, tupH_rd e, r⟩
  · exact absurd e.symm (Ct.pv_ne.2.2.2.2.1 xs)
/-- one that does not look like a schema -/
theorem Lk.tupK {v : V} {xs : List PV} (h : Lk g w H v (.tup xs)) (hx : slk xs = false) : ∃ a vs, v = .ref a ∧ H a = some (.tup vs) ∧ Rps g w H vs xs := by
  rcases h with h | ⟨a, c, e1, e, k⟩
  · cases h with
    | tup f e _ r =>
      rw [hx] at e
      exact ⟨_, _, rfl, e, r⟩
  · exact absurd e.symm (Ct.pv_ne.2.2.2.2.1 xs)
/-- one that does -/
theorem Lk.tupB {v : V} {xs : List PV} (h : Lk g w H v (.tup xs)) (hx : slk xs = true) : ∃ a vs o, v = .ref a ∧ H a = some (.frz o (.tup vs)) ∧ Bare o ∧ Rps g w H vs xs := by
  rcases h with h | ⟨a, c, e1, e, k⟩
  · cases h with
    | tup f e hb r =>
      rw [hx] at e
      exact ⟨_, _, _, rfl, e, hb, r⟩
  · exact absurd e.symm (Ct.pv_ne.2.2.2.2.1 xs)
theorem slk_kv : ∀ ks : List Key, slk (ks.map keyPV) = false
  | [] => rfl
  | .inl _ :: _ => rfl
  | .inr _ :: _ => rfl
theorem slk_key {xs : List PV} {q : List Key} (h : toKeys xs = some q) : slk xs = false := by
  cases xs with
  | nil => rfl
  | cons x xs => cases x <;> first | rfl | (simp [toKeys, toKey] at h)
theorem Lk.dk {v : V} {ks : List Key} {xs : List PV} (h : Lk g w H v (.dk ks xs)) : ∃ a, ∃ kvs : List (Key × V), v = .ref a ∧ H a = some (.dK kvs) ∧ kvs.map (·.1) = ks ∧ Rps g w H (kvs.map (·.2)) xs := by
  rcases h with h | ⟨a, c, e1, e, k⟩
  · cases h with
    | dk f e q r => exact ⟨_, _, rfl, e, q, r⟩
  · cases k with
    | l e2 r => cases e
    | k e2 q r => cases e; exact ⟨a, _, e1, e2, q, r⟩
    | t e2 q r => cases e
theorem Lk.dt {v : V} {ks : List (List Key)} {xs : List PV} (h : Lk g w H v (.dt ks xs)) : ∃ a, ∃ kvs : List (List Key × V), v = .ref a ∧ H a = some (.dT kvs) ∧ kvs.map (·.1) = ks ∧ Rps g w H (kvs.map (·.2)) xs := by
  rcases h with h | ⟨a, c, e1, e, k⟩
  · cases h with
    | dt f e q r => exact ⟨_, _, rfl, e, q, r⟩
  · cases k with
    | l e2 r => cases e
    | k e2 q r => cases e
    | t e2 q r => cases e; exact ⟨a, _, e1, e2, q, r⟩
end

/-! ### what a term hands on -/
section
variable {g : Gx} {pf : Bool} {w0 w w1 w' : Wd} {H0 H H1 H' : Hp} {env : Ev} {W W1 W' : Om} {σ : L2.St}
theorem Ext.tr (e : Ext w H w' H') (wk' : WOk g w' W' H') : ∀ a, H' a = none → H a = none := fun a h => by
  cases q : H a with
  | none => rfl
  | some o =>
    by_cases ng : w.G a
    · obtain ⟨u, z⟩ := wk'.tr a (e.kG a ng)
      rw [h] at z; cases z
    · have z := (e.kR a o q ng).1
      rw [h] at z; cases z
theorem Rel.laid {a : Addr} {o : HO} (r : Rel g pf w0 H0 w env W σ H) (h : H a = none) : Rel g pf w0 H0 w env W σ (upd H a o) :=
  r.next (Ext.laid r.wk h) (r.wk.laid h) (fun _ q => upd_none q) fun _ b u e => upd_keep h e
theorem Rel.fresh_slot {a : Addr} (r : Rel g pf w0 H0 w env W σ H) (h : H a = none) : ∀ (i : Nat) (c : Ct), env[i]? = some (.own c) → σ[i]? ≠ some (some (V.ref a)) := fun i c e q => by
  obtain ⟨b, e1, _, _, k⟩ := r.sl i _ e
  rw [q] at e1
  have eb : b = a := by cases e1; rfl
  obtain ⟨o, z⟩ := k.ex
  rw [eb, h] at z
  cases z
theorem Rel.laidF {a : Addr} {o : HO} (r : Rel g pf w0 H0 w env W σ H) (h : H a = none) : Rel g pf w0 H0 (w.frz a) env W σ (upd H a o) :=
  (r.laid h).frz upd_same (r.wk.fresh h) (r.tr0 a h) (r.fresh_slot h)
theorem Ext.laidF {a : Addr} {o : HO} (wk : WOk g w W H) (h : H a = none) : Ext w H (w.frz a) (upd H a o) := (Ext.laid wk h).frz h
theorem same_laid {a : Addr} {o : HO} (h : H a = none) : Same H (upd H a o) := fun b u e => upd_keep h e

/-- what is owed of a term's outcome -/
def oE (g : Gx) (pf : Bool) (Wx : WX) (w0 : Wd) (H0 : Hp) (env : Ev) (σ : L2.St) (w : Wd) (H : Hp) (p : Bool) (Q : VK) : Out R → Prop
  | .ok r W' => ∀ v H' w', Ext w H w' H' → (p = true → Same H H') → Rel g pf w0 H0 w' env W' σ H' → RR g w' H H' v r → Q v H'
  | .exc c W' => c < g.nx → ∀ H' w', Ext w H w' H' → Rel g pf w0 H0 w' env W' σ H' → Wx (.ref (g.ca c)) none σ H'
  | .bad => False
def tE (g : Gx) (pf : Bool) (Wx : WX) (p : Bool) (f : Ev → Om → Out R) : TE := fun σ H Q =>
  ∃ w0 H0 w env W, Rel g pf w0 H0 w env W σ H ∧ oE g pf Wx w0 H0 env σ w H p Q (f env W)
theorem oE.shift {Wx : WX} {p : Bool} {Q : VK} {o : Out R} (h : oE g pf Wx w0 H0 env σ w H p Q o) (e : Ext w H w1 H1) (s : p = true → Same H H1) (n : ∀ a, H1 a = none → H a = none) : oE g pf Wx w0 H0 env σ w1 H1 p Q o := by
  cases o with
  | ok r W' => exact fun v H' w' e' s' r' rr => h v H' w' (e.trans e') (fun q => (s q).trans (s' q)) r' (rr.weak n)
  | exc c W' => exact fun hc H' w' e' r' => h hc H' w' (e.trans e') r'
  | bad => exact h
theorem oE.pmono {Wx : WX} {p p' : Bool} {Q : VK} {o : Out R} (h : oE g pf Wx w0 H0 env σ w H p Q o) (i : p = true → p' = true) : oE g pf Wx w0 H0 env σ w H p' Q o := by
  cases o with
  | ok r W' => exact fun v H' w' e' s' r' rr => h v H' w' e' (fun q => s' (i q)) r' rr
  | exc c W' => exact h
  | bad => exact h
/-- the first of two -/
theorem oE.bind {Wx : WX} {p p' : Bool} {Q Q' : VK} {o : Out R} {k : R → Om → Out R} (h : oE g pf Wx w0 H0 env σ w H p Q (o.bind k)) (i : p = true → p' = true)
    (hk : ∀ x W1 v H1 w1, o = .ok x W1 → Rel g pf w0 H0 w1 env W1 σ H1 → Ext w H w1 H1 → (p' = true → Same H H1) → RR g w1 H H1 v x → (∀ a, H1 a = none → H a = none) → oE g pf Wx w0 H0 env σ w1 H1 p Q (k x W1) → Q' v H1) : oE g pf Wx w0 H0 env σ w H p' Q' o := by
  cases o with
  | ok x W1 => exact fun v H1 w1 e s r rr => hk x W1 v H1 w1 rfl r e s rr (e.tr r.wk) (oE.shift h e (fun q => s (i q)) (e.tr r.wk))
  | exc c W1 => exact h
  | bad => exact h
theorem _root_.L2.PE.imp {X : Cx} {e : Expr} {t t' : TE} (h : PE X e t) (q : ∀ σ H Q, t' σ H Q → t σ H Q) : PE X e t' := ⟨fun pins s σ H Q I z => h.run pins s σ H Q I (q σ H Q z)⟩
theorem _root_.L2.PT.imp {X : Cx} {e : Expr} {t t' : TT} (h : PT X e t) (q : ∀ σ H Q, t' σ H Q → t σ H Q) : PT X e t' := ⟨fun pins s σ H Q I z => h.run pins s σ H Q I (q σ H Q z)⟩
theorem _root_.L2.PA.imp {X : Cx} {e : List Expr} {t t' : TA} (h : PA X e t) (q : ∀ σ H Q, t' σ H Q → t σ H Q) : PA X e t' := ⟨fun pos pins s σ H Q I z => h.run pos pins s σ H Q I (q σ H Q z)⟩

/-- a result: a value that stands, a new tuple, a new list or dict -/
inductive NewOk (g : Gx) (w : Wd) (H : Hp) : HO → Ct → Prop
  | l {vs : List V} {xs : List PV} (r : Rps g w H vs xs) : NewOk g w H (.lst vs) (.l xs)
  | k {kvs : List (Key × V)} {ks : List Key} {xs : List PV} (q : kvs.map (·.1) = ks) (r : Rps g w H (kvs.map (·.2)) xs) : NewOk g w H (.dK kvs) (.k ks xs)
  | t {kvs : List (List Key × V)} {ks : List (List Key)} {xs : List PV} (q : kvs.map (·.1) = ks) (r : Rps g w H (kvs.map (·.2)) xs) : NewOk g w H (.dT kvs) (.t ks xs)
structure Res (g : Gx) (w : Wd) (H : Hp) (r : R) (Q : VK) : Prop where
  va : ∀ p v, r = .val p → Rp g w H v p → Q v H
  tu : ∀ xs a vs o, r = .val (.tup xs) → H a = none → Bare o → Rps g w H vs xs → Q (.ref a) (upd H a (tupH (slk xs) o vs))
  fr : ∀ c a o, r = .fre c → H a = none → NewOk g w H o c → Q (.ref a) (upd H a o)
  fz : ∀ c a o (P : Addr → Prop), r = .fre c → H a = none → (∀ b, P b → ∃ vs, H b = some (.tup vs)) → NewOk g (w.frzT P) H o c → Q (.ref a) (upd H a o)
theorem NewOk.ct {a : Addr} {o : HO} {c : Ct} (h : NewOk g w H o c) (e : Ext w H w' (upd H a o)) : CtOk g w' (upd H a o) a c := by
  cases h with
  | l r => exact .l upd_same (r.mono e)
  | k q r => exact .k upd_same q (r.mono e)
  | t q r => exact .t upd_same q (r.mono e)
theorem Rel.res {Wx : WX} {p : Bool} {Q : VK} {r : R} (rel : Rel g pf w0 H0 w env W σ H) (h : oE g pf Wx w0 H0 env σ w H p Q (.ok r W)) : Res g w H r Q where
  va := fun q v e rp => h v H w (Ext.refl w H) (fun _ => Same.refl H) rel (by subst e; exact rp)
  tu := fun xs a vs o e hn hb rp => h (.ref a) _ (w.frz a) (Ext.laidF rel.wk hn) (fun _ => same_laid hn) (rel.laidF hn) (by
    subst e
    exact .tup (.inl rfl) upd_same hb (rp.mono (Ext.laidF rel.wk hn)))
  fr := fun c a o e hn nk => h (.ref a) _ w (Ext.laid rel.wk hn) (fun _ => same_laid hn) (rel.laid hn) (by
    subst e
    exact ⟨a, rfl, hn, rel.wk.fresh hn, nk.ct (Ext.laid rel.wk hn)⟩)
  fz := fun c a o P e hn hP nk => h (.ref a) _ (w.frzT P) ((Ext.frzT hP).trans (Ext.laid (rel.wk.frzT hP) hn)) (fun _ => same_laid hn) ((rel.frzT hP).laid hn) (by
    subst e
    exact ⟨a, rfl, hn, (rel.wk.frzT hP).fresh hn, nk.ct (Ext.laid (rel.wk.frzT hP) hn)⟩)
end
end D

/-! D4T: tuples made, known to be bare where that is wanted; dict(tuple of pairs). -/
namespace D
open PySem PySem.Spec PyProof.Rows L2
def bareO (its : List Value) : Obj := { cls := .type "tuple", data := .seq its.toArray }
theorem bareO_ok (its : List Value) : Bare (bareO its) := ⟨rfl, rfl⟩
theorem tupH_ok {P : Program} {w : World} {H : Hp} {h : Heap} {a : Addr} {b : Bool} {vs : List V} {its : List Value} (z : vs.length ≤ sizeLine) (r : Vals vs its) (e : h.get? a = some (bareO its)) : ObjOk P w H h a (tupH b (bareO its) vs) := by
  have k : ObjOk P w H h a (.tup vs) := ⟨z, its, r, ⟨_, e, rfl, _, rfl⟩⟩
  cases b with
  | true => exact ⟨e, k⟩
  | false => exact k
section
variable {X : Cx} {t : TA} {es : List Expr} {pos : Pos}
def tTupB (bs : List V → Hp → VK → Prop) (t : TA) : TE := fun σ H Q => t σ H fun xs H1 => xs.length ≤ sizeLine ∧ bs xs H1 Q
def newT (xs : List V) (H1 : Hp) (Q : VK) : Prop := ∃ b : Bool, ∀ p o, H1 p = none → Bare o → Q (.ref p) (upd H1 p (tupH b o xs))
theorem pe_tupB {x1} (h : PA X es t) : PE X (.Tuple es x1 pos) (tTupB newT t) := by
  refine ⟨fun pins s σ H Q I hq => ?_⟩
  refine wpAny_Tuple_spliced (thn (h.run pos pins s σ H _ I hq) fun us s1 ⟨xs, H1, I1, r, z, b, q⟩ => ⟨by rw [← r.length]; exact z, ?_⟩)
  have hf : H1 s1.heap.objs.size = none := I1.hok.fresh (Nat.le_refl _)
  exact ⟨.ref s1.heap.objs.size, upd H1 s1.heap.objs.size (tupH b (bareO us) xs), I1.laid (t' := s1.toks) (fun b u e => Heap.get?_push_of_some _ e) (Nat.le_refl _) (tupH_ok z r (Heap.get?_push_size _ rfl)), rfl, q _ _ hf (bareO_ok us)⟩
/-- tuple(list) -/
theorem call_tupleB : CallR X (.type "tuple") (fun xs H Q => ∃ p ys, xs = [.ref p] ∧ SqL X.K H p ys ∧ newT ys H Q) := by
  intro pins s σ H xs us Q I r h
  obtain ⟨p, ys, rfl, hq, b, q⟩ := h
  obtain ⟨u, rfl, rx⟩ := vals1 r
  cases rx
  obtain ⟨its, r', pl, hz⟩ := I.list hq
  have hlen := r'.length
  refine call_tuple_list pl.isList (fun h' kp => ?_) (by simp only [List.size_toArray] <;> omega)
  have I1 : Inv X pins σ H { s with heap := h' } := I.kept (t' := s.toks) kp
  have I2 : Inv X pins σ (upd H h'.objs.size (tupH b (bareO its) ys)) { s with heap := h'.push { cls := .type "tuple", data := .seq its.toArray } } :=
    I1.laid (t' := s.toks) (fun b o e => Heap.get?_push_of_some _ e) (Nat.le_refl _) (tupH_ok hz r' (Heap.get?_push_size _ rfl))
  exact ⟨.ref h'.objs.size, _, I2, rfl, q _ _ (I1.hok.fresh (Nat.le_refl _)) (bareO_ok its)⟩
/-- a + b of tuples -/
def rCatB (K : PySem.W.Frag) : R2 := fun x y H Q => ∃ a b xs ys, x = .ref a ∧ y = .ref b ∧ SqT K H a xs ∧ SqT K H b ys ∧ xs.length + ys.length ≤ sizeLine ∧
  (xs = [] → Q (.ref b) H) ∧ (xs ≠ [] → ys = [] → Q (.ref a) H) ∧ (xs ≠ [] → ys ≠ [] → newT (xs ++ ys) H Q)
theorem op_catB : OpR X (binaryOp .Add) (rCatB X.K) := by
  intro pins s σ H x y v u Q I rx ry h
  obtain ⟨a, b, xs, ys, rfl, rfl, ha, hb, hz, q0, q1, q2⟩ := h
  by_cases hx : xs = []
  · subst hx
    cases rx
    cases ry
    obtain ⟨its, r1, p1, _⟩ := I.tuple ha
    obtain ⟨its2, r2, p2, _⟩ := I.tuple hb
    cases r1
    exact cat_tup0 p1 p2 ⟨.ref b, H, I, rfl, q0 rfl⟩
  · cases rx
    cases ry
    obtain ⟨its, r1, p1, _⟩ := I.tuple ha
    obtain ⟨its2, r2, p2, _⟩ := I.tuple hb
    refine HT.cat_tup p1 p2 (fun z => hx (r1.nil_iff.mp z)) (fun z => ⟨.ref a, H, I, rfl, q1 hx (r2.nil_iff.mp z)⟩) (fun z => ?_) (by rw [← r1.length, ← r2.length]; exact hz)
    obtain ⟨c, q⟩ := q2 hx fun w => z (r2.nil_iff.mpr w)
    refine ⟨.ref s.heap.objs.size, _, I.laid (t' := s.toks) (o := tupH c (bareO (its ++ its2)) (xs ++ ys)) (fun b ob q => Heap.get?_push_of_some _ q) (Nat.le_refl _) ?_, rfl, q _ _ (I.hok.fresh (Nat.le_refl _)) (bareO_ok _)⟩
    exact tupH_ok (by rw [List.length_append]; exact hz) (r1.append r2) (Heap.get?_push_size _ rfl)
/-- t[lo:hi] -/
def rSlB (K : PySem.W.Frag) : V → Option Int → Option Int → Hp → VK → Prop := fun x lo hi H Q => ∃ a xs, x = .ref a ∧ SqT K H a xs ∧
  (HT.sIx xs.length 0 lo = 0 ∧ HT.sIx xs.length xs.length hi = xs.length → Q (.ref a) H) ∧ (¬ (HT.sIx xs.length 0 lo = 0 ∧ HT.sIx xs.length xs.length hi = xs.length) → newT (cutV xs lo hi) H Q)
theorem sl_tupB : SlR X (rSlB X.K) := by
  intro pins s σ H x v vl vu lo hi sl Q I rx hs pl pu h
  obtain ⟨a, xs, rfl, hx, q1, q2⟩ := h
  by_cases hw : HT.sIx xs.length 0 lo = 0 ∧ HT.sIx xs.length xs.length hi = xs.length
  · exact sl_tupA pins s σ H _ v vl vu lo hi sl Q I rx hs pl pu ⟨a, xs, rfl, hx, q1, fun z => absurd hw z⟩
  · cases rx
    obtain ⟨its, r, ht, hz⟩ := I.tuple hx
    have hlen : its.toArray.size = xs.length := by rw [List.size_toArray]; exact r.length.symm
    refine ⟨"tuple", _, PyProof.Rows.slot_tuple_getitem.lookup, ht.typeIs, ?_⟩
    refine HT.getItem_tuple_cut ht hs pl pu (by rw [hlen]; exact hw) ?_ (by rw [hlen]; exact hz)
    rw [hlen]
    obtain ⟨c, q⟩ := q2 hw
    refine ⟨.ref s.heap.objs.size, _, I.laid (t' := s.toks) (o := tupH c (bareO (List.take (HT.sIx xs.length xs.length hi - HT.sIx xs.length 0 lo) (List.drop (HT.sIx xs.length 0 lo) its.toArray.toList))) (cutV xs lo hi)) (fun b ob q => Heap.get?_push_of_some _ q) (Nat.le_refl _) ?_, rfl, q _ _ (I.hok.fresh (Nat.le_refl _)) (bareO_ok _)⟩
    exact tupH_ok (Nat.le_trans (cutV_length xs lo hi) hz) ((r.drop (HT.sIx xs.length 0 lo)).take (HT.sIx xs.length xs.length hi - HT.sIx xs.length 0 lo)) (Heap.get?_push_size _ rfl)
theorem pairs_ofB {pins : List (Addr × Obj)} {σ : L2.St} {H : Hp} {s : Shared} (I : Inv X pins σ H s) : ∀ {ps : List Addr} {kvs : List (Key × V)}, Paired (fun p kv => SqT X.K H p [kV kv.1, kv.2]) ps kvs →
    ∃ (prs : List (Key × Value)) (vps : List (Value × Value)), KV kvs prs ∧ prs.length = ps.length ∧ vps.length = ps.length ∧ ∀ (j : Nat) (x : Value × Value), vps[j]? = some x → ∃ (b : Addr) (k : Key), ps[j]? = some b ∧ prs[j]? = some (k, x.2) ∧ IsTup s.heap b #[x.1, x.2] ∧ keyIs k x.1 = true
  | _, _, .nil => ⟨[], [], .nil, rfl, rfl, fun j q e => by simp at e⟩
  | _, _, .cons (a := p) (b := kv) h t => by
    obtain ⟨prs, vps, r, hl, hl2, hp⟩ := pairs_ofB I t
    obtain ⟨its, rv, ht, _⟩ := I.tuple h
    obtain ⟨u, y, ei, ru, ry⟩ := vals2 rv
    subst ei
    refine ⟨(kv.1, y) :: prs, (u, y) :: vps, .cons ⟨rfl, ry⟩ r, by rw [List.length_cons, List.length_cons, hl], by rw [List.length_cons, List.length_cons, hl2], fun j q e => ?_⟩
    cases j with
    | zero =>
      have e' : (u, y) = q := Option.some.inj e
      subst e'
      exact ⟨p, kv.1, rfl, rfl, ht, kV_is (P := X.prog) (w := X.w) ru⟩
    | succ j =>
      obtain ⟨b, k, e1, e2, e3, e4⟩ := hp j q (by simpa using e)
      exact ⟨b, k, by simpa using e1, by simpa using e2, e3, e4⟩
/-- dict(t) of a bare tuple of pairs (key, value) -/
theorem call_dictB (hcalm : X.calm = true) : CallR X (.type "dict") (fun xs H Q => ∃ (a : Addr) (o : Obj) (ps : List Addr) (kvs : List (Key × V)), xs = [.ref a] ∧ H a = some (.frz o (.tup (ps.map V.ref))) ∧ Bare o ∧ Paired (fun p kv => SqT X.K H p [kV kv.1, kv.2]) ps kvs ∧
    ∀ p, H p = none → Q (.ref p) (upd H p (.dK (mergeK [] kvs)))) := by
  intro pins s σ H xs us Q I r q
  obtain ⟨a, o, ps, kvs, ex, hq, hbare, hp, q⟩ := q
  subst ex
  obtain ⟨u, eu, rx⟩ := vals1 r
  subst eu
  cases rx
  obtain ⟨ho, hz, its, rv, o', ho', hc, n, hdat⟩ := I.hok a _ hq
  rw [ho] at ho'
  cases ho'
  have ei := refs_at rv
  subst ei
  rw [List.length_map] at hz
  obtain ⟨prs, vps, rel, hl, hl2, hpr⟩ := pairs_ofB I hp
  have hsz : prs.length ≤ sizeLine := by rw [hl]; exact hz
  have hlen : (mergeK [] kvs).length ≤ sizeLine := by
    refine Nat.le_trans (length_mergeK kvs []) ?_
    rw [List.length_nil, Nat.zero_add, rel.length]
    exact hsz
  have hm : (s.heap.objs.size == sysModules) = false := beq_eq_false_iff_ne.mpr (Nat.ne_of_gt I.big)
  have P := PySem.PairArg.tuple (prog := X.prog) (w := X.w) a (ps.map Value.ref).toArray (fun j => ps.getD j 0) vps
  refine PySem.call_dict_pairs (knd := mixKind X.prog X.w) (kvs := prs) P (I.ok.hd hcalm) ⟨⟨o, n, ho, hbare.1, hbare.2, hdat⟩, by simp [hl2], fun j k v e => ?_⟩ ⟨by rw [hl, hl2], fun i key v e => ?_⟩ (by rw [hl2, ← hl]; exact hsz) fun h' tk hd' k => ?_
  · obtain ⟨b, k', e1, e2, e3, e4⟩ := hpr j (k, v) e
    have eb : ps.getD j 0 = b := by simp [List.getD, e1]
    refine ⟨by simp [e1], ?_⟩
    show PairAt s.heap (ps.getD j 0) k v
    rw [eb]
    exact .inl e3
  · obtain ⟨b, k', e1, e2, e3, e4⟩ := hpr i (key, v) e
    exact ⟨k', e2, e4⟩
  · exact ⟨.ref s.heap.objs.size, upd H s.heap.objs.size (.dK (mergeK [] kvs)), I.laid (t' := tk) (fun b o e => k b o (by simp) e) (Nat.le_refl _) (show ObjOk X.prog X.w _ _ _ (.dK (mergeK [] kvs)) from ⟨hlen, hm, merged [] prs, KV.merge rel .nil, hd'⟩), rfl, q _ (I.hok.fresh (Nat.le_refl _))⟩
end
end D

/-! D5: the operators. -/
namespace D
open PySem PySem.Spec PyProof.Rows L2

def boO : BO → Operator
  | .add => .Add | .sub => .Sub | .mul => .Mult | .mod => .Mod | .fdiv => .FloorDiv | .pow => .Pow
def coO : CO → CmpOp
  | .eq => .Eq | .ne => .NotEq | .lt => .Lt | .le => .LtE | .gt => .Gt | .ge => .GtE | .isin => .In | .notin => .NotIn
def rB (g : Gx) (o : BO) : R2 := fun x y H Q => ∃ w p q r, Lk g w H x p ∧ Lk g w H y q ∧ binOp o p q = some r ∧ Res g w H r Q
def rC (g : Gx) (o : CO) : R2 := fun x y H Q => ∃ w p q b, Lk g w H x p ∧ Lk g w H y q ∧ cmpOp o p q = some b ∧ Q (.bl b) H

theorem sz_line : sz = sizeLine := by rw [sizeLine_eq]; rfl
theorem small64_ok {i : Int} (h : small64 i = true) : -(2 ^ 64) < i ∧ i < 2 ^ 64 := by
  unfold small64 at h
  simp only [Bool.and_eq_true, decide_eq_true_eq] at h
  omega
theorem okS_1 {x : Str} (h : okS x = true) : PyData.strOk x = true := (Bool.and_eq_true_iff.mp h).1
theorem okS_2 {x : Str} (h : okS x = true) : x.length ≤ sz := of_decide_eq_true (Bool.and_eq_true_iff.mp h).2
theorem okS_of {x : Str} (h : PyData.strOk x = true) (l : x.length ≤ sz) : okS x = true := by
  unfold okS
  rw [h, decide_eq_true l]
  rfl
theorem strOk_app {x y : Str} (hx : PyData.strOk x = true) (hy : PyData.strOk y = true) : PyData.strOk (x ++ y) = true := by
  unfold PyData.strOk at *
  show ((x.cps ++ y.cps).all _) = true
  rw [Array.all_append, hx, hy]
  rfl
theorem strOk_iff {x : Str} : PyData.strOk x = true ↔ ∀ c ∈ x.cps.toList, c < 0x110000 := by
  unfold PyData.strOk
  rw [← Array.all_toList, List.all_eq_true]
  simp
theorem strOk_of {l : List Nat} (h : ∀ c ∈ l, c < 0x110000) : PyData.strOk ⟨l.toArray⟩ = true := strOk_iff.mpr (by simpa using h)
theorem foldl_rep (l : List Nat) : ∀ (n : Nat) (acc : Array Nat), (List.replicate n l.toArray).foldl (· ++ ·) acc = acc ++ ((List.replicate n l).flatten).toArray
  | 0, acc => by simp
  | n + 1, acc => by
    rw [List.replicate_succ, List.foldl_cons, foldl_rep l n, List.replicate_succ, List.flatten_cons]
    rw [Array.append_assoc]
    congr 1
    simp
section
variable {X : Cx} {g : Gx}
theorem rb_op (hK : X.K = g.K) (o : BO) : OpR X (binaryOp (boO o)) (rB g o) := by
  intro pins s σ H x y v u Q I rx ry h
  obtain ⟨w, p, q, r, lx, ly, e, res⟩ := h
  unfold binOp at e
  split at e
  · cases e
    rw [lx.int] at rx; rw [ly.int] at ry
    exact op_add pins s σ H _ _ v u Q I rx ry ⟨_, _, rfl, rfl, res.va _ _ rfl (.int _)⟩
  · rename_i x y
    split at e
    · cases e
      rw [lx.str.1] at rx; rw [ly.str.1] at ry
      exact op_add_str pins s σ H _ _ v u Q I rx ry ⟨_, _, rfl, rfl, by rw [← sz_line]; assumption, res.va _ _ rfl (.str _ (okS_of (strOk_app (okS_1 lx.str.2) (okS_1 ly.str.2)) (by show (x.cps ++ y.cps).size ≤ sz; rw [Array.size_append]; assumption)))⟩
    · cases e
  · rename_i xs ys
    split at e
    · rename_i hz
      cases e
      obtain ⟨a, vs, rfl, e1, r1⟩ := lx.lst
      obtain ⟨b, us, rfl, e2, r2⟩ := ly.lst
      refine op_cat pins s σ H _ _ v u Q I rx ry ⟨a, b, vs, us, rfl, rfl, e1, e2, by rw [← sz_line, r1.length, r2.length]; exact hz, fun c hc => res.fr _ _ _ rfl hc (.l (r1.append r2))⟩
    · cases e
  · rename_i xs ys
    split at e
    · rename_i hz
      cases e
      obtain ⟨a, vs, rfl, e1, r1⟩ := lx.tup
      obtain ⟨b, us, rfl, e2, r2⟩ := ly.tup
      refine op_catB pins s σ H _ _ v u Q I rx ry ⟨a, b, vs, us, rfl, rfl, .inl e1, .inl e2, by rw [← sz_line, r1.length, r2.length]; exact hz, fun z => ?_, fun _ z => ?_, fun _ _ => ⟨_, fun c o hc hb => res.tu _ _ _ o rfl hc hb (r1.append r2)⟩⟩
      · subst z
        cases r1
        refine res.va _ _ rfl ?_
        rcases ly with k | ⟨_, c, _, e, _⟩
        · exact k
        · exact absurd e.symm (Ct.pv_ne.2.2.2.2.1 _)
      · subst z
        cases r2
        refine res.va _ _ rfl ?_
        rw [List.append_nil]
        rcases lx with k | ⟨_, c, _, e, _⟩
        · exact k
        · exact absurd e.symm (Ct.pv_ne.2.2.2.2.1 _)
    · cases e
  · cases e
    rw [lx.int] at rx; rw [ly.int] at ry
    exact op_sub pins s σ H _ _ v u Q I rx ry ⟨_, _, rfl, rfl, res.va _ _ rfl (.int _)⟩
  · split at e
    · rename_i hm
      cases e
      rw [lx.int] at rx; rw [ly.int] at ry
      refine op_mul pins s σ H _ _ v u Q I rx ry ⟨_, _, rfl, rfl, ?_, res.va _ _ rfl (.int _)⟩
      rcases Bool.or_eq_true_iff.mp hm with z | z
      · exact .inl (small64_ok z)
      · exact .inr (small64_ok z)
    · cases e
  · rename_i x n
    split at e
    · rename_i hm
      cases e
      obtain ⟨h1, h2, h3⟩ := hm
      obtain ⟨ex, ok⟩ := lx.str
      rw [ex] at rx; rw [ly.int] at ry
      obtain ⟨t, rfl⟩ := rx
      obtain ⟨t', rfl⟩ := ry
      have line : sizeLine = 16777216 := sizeLine_eq
      have hn : n.toNat ≤ 1000 := by omega
      have hmul : x.length * n.toNat ≤ 1000 * 1000 := Nat.mul_le_mul h3 hn
      have fin : Q (.str ⟨((List.replicate n.toNat x.cps.toList).flatten).toArray⟩) H := res.va _ _ rfl (.str _ (okS_of (strOk_of fun c hc => by
        obtain ⟨l, hl, hc⟩ := List.mem_flatten.mp hc
        rw [List.eq_of_mem_replicate hl] at hc
        exact strOk_iff.mp (okS_1 ok) c hc) (by
          show ((List.replicate n.toNat x.cps.toList).flatten).toArray.size ≤ sz
          have hl3 : ((List.replicate n.toNat x.cps.toList).flatten).length = n.toNat * x.length := by
            rw [List.length_flatten, List.map_replicate, List.sum_replicate_nat]
            simp [Str.length]
          rw [List.size_toArray, hl3, Nat.mul_comm]
          unfold sz
          omega)))
      refine P.mul_str (by
        have a1 : ¬ n < -(2 ^ 63 : Int) := by omega
        have a2 : ¬ n ≥ 2 ^ 63 := by omega
        rw [decide_eq_false a1, decide_eq_false a2]; rfl) (fun _ _ => ?_) (fun _ _ => ?_) ?_
      · have : (2 ^ 63 - 1) / 1000 ≤ ((2 ^ 63 - 1) / n : Int) := by
          have a3 : (2 ^ 63 - 1) / 1000 * n ≤ (2 ^ 63 - 1 : Int) := by omega
          exact (Int.le_ediv_iff_mul_le (by omega)).mpr a3
        omega
      · unfold Builtin.Str.tooLong
        rw [line, decide_eq_false]
        omega
      · rw [if_neg (by omega)]
        split
        · rename_i hc
          have ex : x = ⟨((List.replicate n.toNat x.cps.toList).flatten).toArray⟩ := by
            rcases Bool.or_eq_true_iff.mp hc with z | z
            · have : n = 1 := by simpa using z
              subst this
              obtain ⟨c⟩ := x
              simp
            · have z' : x.length = 0 := by simpa using z
              obtain ⟨c⟩ := x
              have zc : c = #[] := Array.eq_empty_of_size_eq_zero z'
              subst zc
              simp
          exact ⟨.str x, H, I, ⟨_, rfl⟩, by rw [ex]; exact fin⟩
        · have e3 := foldl_rep x.cps.toList n.toNat #[]
          simp only [Array.toArray_toList] at e3
          have hl3 : ((List.replicate n.toNat x.cps.toList).flatten).length = n.toNat * x.length := by
            rw [List.length_flatten, List.map_replicate, List.sum_replicate_nat]
            simp [Str.length]
          refine ⟨?_, ?_⟩
          · rw [e3]
            show (#[] ++ ((List.replicate n.toNat x.cps.toList).flatten).toArray).size ≤ sizeLine
            rw [Array.size_append, List.size_toArray, line]
            simp only [List.size_toArray, List.length_nil, Array.size_empty, hl3]
            rw [Nat.mul_comm]
            omega
          refine ⟨.str ⟨((List.replicate n.toNat x.cps.toList).flatten).toArray⟩, H, I.tok _, ⟨s.toks, ?_⟩, fin⟩
          rw [e3]
          simp
    · cases e
  · split at e
    · rename_i hm
      cases e
      rw [lx.int] at rx; rw [ly.int] at ry
      exact op_mod pins s σ H _ _ v u Q I rx ry ⟨_, _, rfl, rfl, hm, res.va _ _ rfl (.int _)⟩
    · cases e
  · split at e
    · rename_i hm
      cases e
      rw [lx.int] at rx; rw [ly.int] at ry
      exact op_fdiv pins s σ H _ _ v u Q I rx ry ⟨_, _, rfl, rfl, hm, res.va _ _ rfl (.int _)⟩
    · cases e
  · rename_i a b
    split at e
    · rename_i hm
      cases e
      rw [lx.int] at rx; rw [ly.int] at ry
      have q := small64_ok hm.2.2
      exact op_pow pins s σ H _ _ v u Q I rx ry ⟨_, _, rfl, rfl, ⟨hm.1, by omega, by omega⟩, res.va _ _ rfl (.int _)⟩
    · cases e
  · cases e
theorem any_toD {n : Nat} {x : PV} (hx : dat n x = true) : ∀ {m : Nat} {ys : List PV}, dats m ys = true → (toDs ys).any (fun z => PyData.eqv z (toD x)) = ys.any fun y => eqv y x
  | _, [], _ => rfl
  | m, y :: ys, h => by
    simp only [dats, Bool.and_eq_true] at h
    simp only [toDs, List.any_cons, eqv_toD m n y x h.1 hx, any_toD hx h.2]
theorem dats_mono : ∀ {ys : List PV}, dats 59 ys = true → dats 60 ys = true := by
  have key : ∀ n, (∀ y, dat n y = true → dat (n + 1) y = true) ∧ ∀ ys, dats n ys = true → dats (n + 1) ys = true := by
    intro n
    induction n with
    | zero =>
      have h1 : ∀ y, dat 0 y = true → dat 1 y = true := fun y h => by cases y <;> simp [dat] at h ⊢
      refine ⟨h1, fun ys => ?_⟩
      induction ys with
      | nil => intro _; simp [dats]
      | cons y ys ih => intro h; simp only [dats, Bool.and_eq_true] at h ⊢; exact ⟨h1 y h.1, ih h.2⟩
    | succ n ih =>
      have h1 : ∀ y, dat (n + 1) y = true → dat (n + 2) y = true := fun y h => by
        cases y with
        | lst xs => simp only [dat] at h ⊢; exact ih.2 xs h
        | tup xs => simp only [dat] at h ⊢; exact ih.2 xs h
        | dk _ _ => simp [dat] at h
        | dt _ _ => simp [dat] at h
        | obj _ => simp [dat] at h
        | exc _ => simp [dat] at h
        | scr _ => simp [dat] at h
        | _ => simp [dat]
      refine ⟨h1, fun ys => ?_⟩
      induction ys with
      | nil => intro _; simp [dats]
      | cons y ys ih2 => intro h; simp only [dats, Bool.and_eq_true] at h ⊢; exact ⟨h1 y h.1, ih2 h.2⟩
  exact fun {ys} h => (key 59).2 ys h
theorem shaped_any {n : Nat} {ds : List PyData} (h : PyData.canLayAll0 ds = true) : PyData.canLayAll0 ds = true := h

/-- x in a list, a tuple, by data -/
theorem in_ok (hu : X.A.units + 65 < cLine) (ng : Bool) {pins : List (Addr × Obj)} {s : Shared} {σ : L2.St} {H : Hp} {x : V} {v u : Value} {Q : VK} {w : Wd} {p : PV} {vs : List V} {ys : List PV} {K : PySem.W.Frag} {a : Addr} (hK : X.K = g.K) (I : Inv X pins σ H s) (rx : RelV x v)
    (ry : u = .ref a) (lx : Lk g w H x p) (hs : SqL g.K H a vs ∨ SqT g.K H a vs) (r : Rps g w H vs ys) (h : (dat 60 p && dats 60 ys) = true) (q : Q (.bl (if ng then !(ys.any fun y => eqv y p) else ys.any fun y => eqv y p)) H) :
    wpAny (model X.prog X.w) X.A (compareOp (if ng then .NotIn else .In) v u) (EP X pins σ Q) X.xe s := by
  obtain ⟨d1, d2⟩ := Bool.and_eq_true_iff.mp h
  obtain ⟨dx, sx⟩ := lx.dp d1
  obtain ⟨da, ca, _⟩ := r.dp 60 d2
  rw [← hK] at dx da hs
  obtain ⟨as, r1⟩ := Dp.reads I (toD p) x v dx rx
  have cx := SeqAt.canLay_of_shaped sx
  rw [← any_toD d1 d2] at q
  subst ry
  rcases hs with hs | hs
  · obtain ⟨bs, r2⟩ := Dp.reads I (.list (toDs ys)) (.ref a) (.ref a) (.lst hs da) rfl
    have room := room_in_shaped (xs := toDs ys) sx hu
    cases ng with
    | false => exact SeqAt.in_list_reads r2 r1 ca cx room ⟨.bl _, H, I, rfl, q⟩
    | true => exact SeqAt.notIn_list_reads r2 r1 ca cx room ⟨.bl _, H, I, rfl, q⟩
  · obtain ⟨bs, r2⟩ := Dp.reads I (.tuple (toDs ys)) (.ref a) (.ref a) (.tup hs da) rfl
    have room := room_in_shaped (xs := toDs ys) sx hu
    cases ng with
    | false => exact SeqAt.in_tuple_reads r2 r1 ca cx room ⟨.bl _, H, I, rfl, q⟩
    | true => exact SeqAt.notIn_tuple_reads r2 r1 ca cx room ⟨.bl _, H, I, rfl, q⟩
/-! ### dicts -/
theorem toKey_kv {k : PV} {q : Key} {v : V} {w : Wd} {H : Hp} (e : toKey k = some q) (l : Lk g w H v k) : v = kV q := by
  cases k <;> simp only [toKey] at e <;> cases e
  · exact l.int
  · exact l.str.1
theorem toKeys_kv {w : Wd} {H : Hp} : ∀ {ks : List PV} {q : List Key} {vs : List V}, toKeys ks = some q → Rps g w H vs ks → vs = q.map kV
  | [], q, vs, e, r => by
    cases r
    simp only [toKeys] at e
    cases e
    rfl
  | k :: ks, q, vs, e, r => by
    cases r with
    | cons r1 r2 =>
      simp only [toKeys] at e
      split at e
      · rename_i k1 ks1 e1 e2
        cases e
        rw [toKey_kv e1 (.inl r1), toKeys_kv e2 r2]
        rfl
      · cases e
theorem look_val {κ : Type} [DecidableEq κ] {w : Wd} {H : Hp} {q : κ} : ∀ {kvs : List (κ × V)} {xs : List PV}, Rps g w H (kvs.map (·.2)) xs →
    (look? (kvs.map (·.1)) xs q = none ∧ valV kvs q = none) ∨ ∃ p v, look? (kvs.map (·.1)) xs q = some p ∧ valV kvs q = some v ∧ Rp g w H v p
  | [], xs, r => by
    cases r
    exact .inl ⟨rfl, rfl⟩
  | (k, v) :: kvs, xs, r => by
    cases r with
    | cons r1 r2 =>
      rename_i p ps
      simp only [List.map_cons, look?]
      by_cases hk : k = q
      · subst hk
        refine .inr ⟨p, v, by rw [if_pos rfl], ?_, r1⟩
        simp [valV]
      · have e : valV ((k, v) :: kvs) q = valV kvs q := by
          unfold valV
          rw [List.find?_cons, decide_eq_false hk]
        rw [if_neg hk, e]
        exact look_val r2
/-- what a dict has at a key -/
theorem dget_ok {w : Wd} {H : Hp} {x y : V} {d k : PV} {o : Option PV} (e : dget d k = some o) (lx : Lk g w H x d) (ly : Lk g w H y k) :
    ∃ a r, x = .ref a ∧ DGet H a y r ∧ ((o = none ∧ r = none) ∨ ∃ p v, o = some p ∧ r = some v ∧ Rp g w H v p) := by
  unfold dget at e
  split at e
  · split at e
    · rename_i q eq
      cases e
      obtain ⟨a, kvs, rfl, h, rfl, r⟩ := lx.dk
      rw [toKey_kv eq ly]
      refine ⟨a, _, rfl, DGet.k h, ?_⟩
      rcases look_val (q := q) r with ⟨h1, h2⟩ | ⟨p, v, h1, h2, h3⟩
      · exact .inl ⟨h1, h2⟩
      · exact .inr ⟨p, v, h1, h2, h3⟩
    · cases e
  · split at e
    · rename_i q eq
      cases e
      obtain ⟨a, kvs, rfl, h, rfl, r⟩ := lx.dt
      obtain ⟨b, vs, rfl, hb, rk⟩ := ly.tupK (slk_key eq)
      rw [toKeys_kv eq rk] at hb
      refine ⟨a, _, rfl, DGet.t h hb, ?_⟩
      rcases look_val (q := q) r with ⟨h1, h2⟩ | ⟨p, v, h1, h2, h3⟩
      · exact .inl ⟨h1, h2⟩
      · exact .inr ⟨p, v, h1, h2, h3⟩
    · cases e
  · cases e
theorem inV_ok (hK : X.K = g.K) (hu : X.A.units + 65 < cLine) (ng : Bool) {pins : List (Addr × Obj)} {s : Shared} {σ : L2.St} {H : Hp} {x y : V} {v u : Value} {Q : VK} {w : Wd} {p q : PV} {b : Bool} (I : Inv X pins σ H s) (rx : RelV x v) (ry : RelV y u)
    (lx : Lk g w H x p) (ly : Lk g w H y q) (e : inV p q = some b) (hq : Q (.bl (if ng then !b else b)) H) : wpAny (model X.prog X.w) X.A (compareOp (if ng then .NotIn else .In) v u) (EP X pins σ Q) X.xe s := by
  unfold inV at e
  split at e
  · split at e
    · rename_i h
      cases e
      obtain ⟨a, vs, rfl, e1, r1⟩ := ly.lst
      exact in_ok (K := g.K) hu ng hK I rx ry lx (.inl (SqL.of e1)) r1 h hq
    · cases e
  · split at e
    · rename_i h
      cases e
      obtain ⟨a, vs, rfl, e1, r1⟩ := ly.tup
      exact in_ok (K := g.K) hu ng hK I rx ry lx (.inr (.inl e1)) r1 h hq
    · cases e
  · split at e
    · rename_i x' z l0 c hc
      cases e
      have ex : x' = ⟨#[c]⟩ := by
        obtain ⟨cs⟩ := x'
        have : cs = #[c] := by
          apply Array.toList_inj.mp
          simpa using hc
        rw [this]
      rw [lx.str.1, ex] at rx
      rw [ly.str.1] at ry
      cases ng with
      | false => exact op_in_sign pins s σ H _ _ v u Q I rx ry ⟨c, z, rfl, rfl, hq⟩
      | true => exact op_notIn_sign pins s σ H _ _ v u Q I rx ry ⟨c, z, rfl, rfl, hq⟩
    · cases e
  · split at e
    · rename_i o eo
      cases e
      obtain ⟨a, r, rfl, dg, hr⟩ := dget_ok eo ly lx
      have eb : o.isSome = r.isSome := by
        rcases hr with ⟨h1, h2⟩ | ⟨_, _, h1, h2, _⟩
        · rw [h1, h2]; rfl
        · rw [h1, h2]; rfl
      rw [eb] at hq
      cases ry
      cases ng with
      | false => exact d_in (by omega) I dg rx fun s3 I3 => ⟨.bl r.isSome, H, I3, rfl, hq⟩
      | true => exact d_notIn (by omega) I dg rx fun s3 I3 => ⟨.bl (!r.isSome), H, I3, rfl, hq⟩
    · cases e
theorem rps_int {w : Wd} {H : Hp} : ∀ l : List Int, Rps g w H (l.map V.int) (l.map PV.int)
  | [] => .nil
  | i :: l => .cons (.int i) (rps_int l)
theorem dats_int (n : Nat) : ∀ l : List Int, dats n (l.map PV.int) = true
  | [] => by simp [dats]
  | i :: l => by simp only [List.map_cons, dats, dats_int n l, Bool.and_true]; cases n <;> simp [dat]
theorem eqI_eqvs : ∀ (ns : List Int) (ys : List PV), eqI ns ys = eqvs (ns.map PV.int) ys
  | [], [] => by simp [eqI, eqvs]
  | [], _ :: _ => by simp [eqI, eqvs]
  | _ :: _, [] => by simp [eqI, eqvs]
  | n :: ns, y :: ys => by
    have ih := eqI_eqvs ns ys
    cases y <;> simp [eqI, eqvs, eqv, ih]
theorem rc_op (hK : X.K = g.K) (hu : X.A.units + 65 < cLine) (o : CO) : OpR X (compareOp (coO o)) (rC g o) := by
  intro pins s σ H x y v u Q I rx ry h
  obtain ⟨w, p, q, b, lx, ly, e, hq⟩ := h
  unfold cmpOp at e
  split at e
  · rename_i ns ys
    split at e
    · rename_i h
      cases e
      obtain ⟨a, rfl, ls⟩ := lx.scr
      have d1 : dat 60 (.lst (ns.map PV.int)) = true := by simp only [dat]; exact dats_int 59 ns
      have d2 : dat 60 (.lst ys) = true := by simpa only [dat] using h
      obtain ⟨dy, sy⟩ := ly.dp d2
      obtain ⟨da, ca, de⟩ := (rps_int (g := g) (w := w) (H := H) ns).dp 59 (dats_int 59 ns)
      have dx : Dp g.K H (.ref a) (toD (.lst (ns.map PV.int))) := by simp only [toD]; exact .lst ls.sql da
      have sx : SeqAt.shaped (toD (.lst (ns.map PV.int))) = true := by
        unfold SeqAt.shaped
        have h1 : (toD (.lst (ns.map PV.int))).canLay0 = true := by simpa [toD, PyData.canLay0] using ca
        have h2 : (toD (.lst (ns.map PV.int))).depth ≤ 60 := by simpa [toD, PyData.depth] using de
        rw [h1, Bool.true_and, decide_eq_true_eq]
        omega
      rw [← hK] at dx dy
      have e1 : eqI ns ys = PyData.eqv (toD (.lst (ns.map PV.int))) (toD (.lst ys)) := by
        rw [eqv_toD 60 60 _ _ d1 d2]
        simp only [eqv]
        exact eqI_eqvs ns ys
      rw [e1] at hq
      exact op_eqD (by omega) pins s σ H _ _ v u Q I rx ry ⟨_, _, dx, dy, sx, sy, hq⟩
    · cases e
  · split at e
    · rename_i h
      cases e
      obtain ⟨d1, d2⟩ := Bool.and_eq_true_iff.mp h
      obtain ⟨dx, sx⟩ := lx.dp d1
      obtain ⟨dy, sy⟩ := ly.dp d2
      rw [← hK] at dx dy
      rw [← eqv_toD 60 60 _ _ d1 d2] at hq
      exact op_eqD (by omega) pins s σ H _ _ v u Q I rx ry ⟨_, _, dx, dy, sx, sy, hq⟩
    · cases e
  · split at e
    · rename_i h
      cases e
      obtain ⟨d1, d2⟩ := Bool.and_eq_true_iff.mp h
      obtain ⟨dx, sx⟩ := lx.dp d1
      obtain ⟨dy, sy⟩ := ly.dp d2
      rw [← hK] at dx dy
      rw [← eqv_toD 60 60 _ _ d1 d2] at hq
      exact op_neD (by omega) pins s σ H _ _ v u Q I rx ry ⟨_, _, dx, dy, sx, sy, hq⟩
    · cases e
  · exact inV_ok hK hu false I rx ry lx ly e hq
  · split at e
    · rename_i r er
      cases e
      exact inV_ok hK hu true I rx ry lx ly er hq
    · cases e
  · cases e
    rw [lx.int] at rx; rw [ly.int] at ry
    exact op_lt pins s σ H _ _ v u Q I rx ry ⟨_, _, rfl, rfl, hq⟩
  · cases e
    rw [lx.int] at rx; rw [ly.int] at ry
    exact op_le pins s σ H _ _ v u Q I rx ry ⟨_, _, rfl, rfl, hq⟩
  · cases e
    rw [lx.int] at rx; rw [ly.int] at ry
    exact op_gt pins s σ H _ _ v u Q I rx ry ⟨_, _, rfl, rfl, hq⟩
  · cases e
    rw [lx.int] at rx; rw [ly.int] at ry
    exact op_ge pins s σ H _ _ v u Q I rx ry ⟨_, _, rfl, rfl, hq⟩
  · cases e
    rw [lx.str.1] at rx; rw [ly.str.1] at ry
    exact op_lt_str pins s σ H _ _ v u Q I rx ry ⟨_, _, rfl, rfl, hq⟩
  · cases e
    rw [lx.str.1] at rx; rw [ly.str.1] at ry
    exact op_le_str pins s σ H _ _ v u Q I rx ry ⟨_, _, rfl, rfl, hq⟩
  · cases e
    rw [lx.str.1] at rx; rw [ly.str.1] at ry
    exact op_gt_str pins s σ H _ _ v u Q I rx ry ⟨_, _, rfl, rfl, hq⟩
  · cases e
    rw [lx.str.1] at rx; rw [ly.str.1] at ry
    exact op_ge_str pins s σ H _ _ v u Q I rx ry ⟨_, _, rfl, rfl, hq⟩
  · cases e
end
end D

/-! D6S: sorted of data of one form. -/
namespace D
open PySem PySem.Spec PyProof.Rows L2
mutual
theorem alk_toD : ∀ {x y : PV}, alk x y = true → PySem.W.alike (toD x) (toD y) = true
  | x, y, h => by
    cases x <;> cases y <;> first
      | (simp [alk] at h; done)
      | (simp [toD, PySem.W.alike]; done)
      | (rename_i xs ys
         simp only [alk] at h
         simp only [toD, PySem.W.alike]
         exact alks_toD h)
theorem alks_toD : ∀ {xs ys : List PV}, alks xs ys = true → PySem.W.alikeAll (toDs xs) (toDs ys) = true
  | [], [], _ => by simp [toDs, PySem.W.alikeAll]
  | [], _ :: _, h => by simp [alks] at h
  | _ :: _, [], h => by simp [alks] at h
  | x :: xs, y :: ys, h => by
    simp only [alks, Bool.and_eq_true] at h
    simp only [toDs, PySem.W.alikeAll, Bool.and_eq_true]
    exact ⟨alk_toD h.1, alks_toD h.2⟩
end
mutual
theorem ltD_toD : ∀ {x y : PV} (n m : Nat), dat n x = true → dat m y = true → alk x y = true → PySem.W.dataLt (toD x) (toD y) = ltD x y
  | x, y, n, m, hx, hy, h => by
    cases x with
    | bl a => cases y <;> first | (simp [alk] at h; done) | skip
              rename_i b
              simp only [toD, PySem.W.dataLt_bool, ltD]
              cases a <;> cases b <;> decide
    | int a => cases y <;> first | (simp [alk] at h; done) | skip
               simp only [toD, PySem.W.dataLt_int, ltD]
    | str a => cases y <;> first | (simp [alk] at h; done) | skip
               simp only [toD, PySem.W.dataLt_str, ltD, ltS]
    | tup xs => cases y <;> first | (simp [alk] at h; done) | skip
                rename_i ys
                simp only [alk] at h
                simp only [toD, PySem.W.dataLt_tuple, ltD]
                cases n with
                | zero => simp [dat] at hx
                | succ n => cases m with
                  | zero => simp [dat] at hy
                  | succ m =>
                    simp only [dat] at hx hy
                    exact ltDs_toD n m hx hy h
    | _ => simp [alk] at h
theorem ltDs_toD : ∀ {xs ys : List PV} (n m : Nat), dats n xs = true → dats m ys = true → alks xs ys = true → PyProof.Rows.lexLt itemOrd (PySem.W.keyToksAll (toDs xs)) (PySem.W.keyToksAll (toDs ys)) = ltDs xs ys
  | [], [], _, _, _, _, _ => by simp only [toDs, ltDs]; exact PyProof.Rows.lex_irrefl _
  | [], _ :: _, _, _, _, _, h => by simp [alks] at h
  | _ :: _, [], _, _, _, _, h => by simp [alks] at h
  | x :: xs, y :: ys, n, m, hx, hy, h => by
    simp only [alks, Bool.and_eq_true] at h
    simp only [dats, Bool.and_eq_true] at hx hy
    simp only [toDs, PySem.W.dataLt_cons (alk_toD h.1), ltDs, eqv_toD n m x y hx.1 hy.1, ltDs_toD n m hx.2 hy.2 h.2, ltD_toD n m hx.1 hy.1 h.1]
end
theorem toDs_map : ∀ xs : List PV, toDs xs = xs.map toD
  | [] => rfl
  | x :: xs => by simp only [toDs, List.map_cons, toDs_map xs]
theorem dats_mem {n : Nat} : ∀ {xs : List PV}, dats n xs = true → ∀ x ∈ xs, dat n x = true
  | x :: xs, h, y, hy => by
    simp only [dats, Bool.and_eq_true] at h
    rcases List.mem_cons.mp hy with rfl | hy
    · exact h.1
    · exact dats_mem h.2 y hy
theorem allAlk_mem {xs : List PV} (h : allAlk xs = true) {x y : PV} (hx : x ∈ xs) (hy : y ∈ xs) : alk x y = true := List.all_eq_true.mp (List.all_eq_true.mp h x hx) y hy
theorem msort_congr {α : Type} {f g : α → α → Bool} : ∀ {l : List α}, (∀ a ∈ l, ∀ b ∈ l, f a b = g a b) → l.mergeSort f = l.mergeSort g := by
  intro l h
  have h1 : ∀ {l : List α}, (∀ a ∈ l, ∀ b ∈ l, f a b = g a b) → l.mergeSort f = l.mergeSort g := by
    intro l
    induction hn : l.length using Nat.strongRecOn generalizing l with
    | _ n ih =>
      intro h
      match l, hn with
      | [], _ => simp [List.mergeSort]
      | [a], _ => simp [List.mergeSort]
      | a :: b :: xs, hn =>
        have hmerge : ∀ (xs ys : List α), (∀ a ∈ xs, ∀ b ∈ ys, f a b = g a b) → List.merge xs ys f = List.merge xs ys g := by
          intro xs
          induction xs with
          | nil => intro ys _; simp [List.merge]
          | cons x xs ihx =>
            intro ys
            induction ys with
            | nil => intro _; simp [List.merge]
            | cons y ys ihy =>
              intro hh
              rw [List.cons_merge_cons, List.cons_merge_cons, hh x (by simp) y (by simp)]
              split
              · rw [ihx (y :: ys) fun a ha b hb => hh a (by simp [ha]) b hb]
              · rw [ihy fun a ha b hb => hh a ha b (by simp [hb])]
        rw [List.mergeSort, List.mergeSort]
        have hl : (a :: b :: xs).length = n := hn
        have e1 : ∀ m, ∀ z ∈ (a :: b :: xs).take m, z ∈ a :: b :: xs := fun m z hz => List.mem_of_mem_take hz
        have e2 : ∀ m, ∀ z ∈ (a :: b :: xs).drop m, z ∈ a :: b :: xs := fun m z hz => List.mem_of_mem_drop hz
        simp only [List.MergeSort.Internal.splitInTwo_fst, List.MergeSort.Internal.splitInTwo_snd]
        rw [ih _ (by rw [List.length_take]; simp at hl ⊢; omega) rfl fun x hx y hy => h x (e1 _ x hx) y (e1 _ y hy),
          ih _ (by rw [List.length_drop]; simp at hl ⊢; omega) rfl fun x hx y hy => h x (e2 _ x hx) y (e2 _ y hy)]
        refine hmerge _ _ fun x hx y hy => ?_
        have hx' := (List.mergeSort_perm _ g).mem_iff.mp hx
        have hy' := (List.mergeSort_perm _ g).mem_iff.mp hy
        exact h x (e1 _ x hx') y (e2 _ y hy')
  exact h1 h
section
variable {X : Cx} {g : Gx}
theorem each_of {w : Wd} {H : Hp} : ∀ {vs : List V} {us : List Value} {ps : List PV}, Vals vs us → Rps g w H vs ps → PySem.W.EachIs (fun u p => ∃ v, RelV v u ∧ Rp g w H v p) us ps
  | _, _, _, .nil, .nil => .nil
  | _, _, _, .cons r t, .cons q s => .cons ⟨_, r, q⟩ (each_of t s)
theorem of_each {w : Wd} {H : Hp} : ∀ {us : List Value} {ps : List PV}, PySem.W.EachIs (fun u p => ∃ v, RelV v u ∧ Rp g w H v p) us ps → ∃ vs, Vals vs us ∧ Rps g w H vs ps
  | _, _, .nil => ⟨[], .nil, .nil⟩
  | _, _, .cons ⟨v, r, q⟩ t => by
    obtain ⟨vs, h1, h2⟩ := of_each t
    exact ⟨v :: vs, .cons r h1, .cons q h2⟩
theorem reads_each {h : Heap} : ∀ {us : List Value} {ds : List PyData} {as : List Addr}, ReadsAll h us ds as → PySem.W.EachIs (fun u d => ∃ as, Reads h u d as) us ds
  | _, _, _, .nil => .nil
  | _, _, _, .cons r t => .cons ⟨_, r⟩ (reads_each t)
theorem each_toD {h : Heap} : ∀ {us : List Value} {ps : List PV}, PySem.W.EachIs (fun u d => ∃ as, Reads h u d as) us (ps.map toD) → PySem.W.EachIs (fun u p => ∃ as, Reads h u (toD p) as) us ps
  | [], [], _ => .nil
  | u :: us, [], h => by cases h
  | [], p :: ps, h => by cases h
  | u :: us, p :: ps, h => by
    cases h with
    | cons r t => exact .cons r (each_toD t)
theorem sorted_op (hK : X.K = g.K) (hu : X.A.units + 65 < cLine) {pins : List (Addr × Obj)} {s : Shared} {σ : L2.St} {H : Hp} {v : V} {us : List Value} {Q : VK} {w : Wd} {xs : List PV} {rev : Bool} {kw : List (Str × Value)} (I : Inv X pins σ H s) (rv : Vals [v] us) (l : Lk g w H v (.lst xs))
    (h1 : dats 20 xs = true) (h2 : allAlk xs = true) (h3 : srtb xs = true) (h4 : xs.length ≤ sz) (q : Res g w H (.fre (.l (xs.mergeSort fun a b => cond rev (!ltD a b) (!ltD b a)))) Q) (hkw : (rev = false ∧ kw = []) ∨ kw = [(Str.ofString "reverse", .bool rev)]) :
    wpAny (model X.prog X.w) X.A (call (.builtin "sorted") us kw) (EP X pins σ Q) X.xe s := by
  obtain ⟨a, vs, rfl, e1, r1⟩ := l.lst
  obtain ⟨its, rvs, hl, hz⟩ := I.list (SqL.of e1)
  obtain ⟨u, rfl, ru⟩ := vals1 rv
  obtain rfl : u = Value.ref a := ru
  obtain ⟨d1, d2, d3⟩ := r1.dp 20 h1
  obtain ⟨as, ra⟩ := Dp.readsAll I (toDs xs) vs its (hK ▸ d1) rvs
  have each := each_of (g := g) rvs r1
  have er := each_toD (ps := xs) (by rw [← toDs_map]; exact reads_each ra)
  have hal : PySem.W.AllAlike (xs.map toD) := by
    intro d hd d' hd'
    obtain ⟨p, hp, rfl⟩ := List.mem_map.mp hd
    obtain ⟨p', hp', rfl⟩ := List.mem_map.mp hd'
    exact alk_toD (allAlk_mem h2 hp hp')
  have hsr : PySem.W.Sortable (xs.map toD) := by
    rcases Bool.or_eq_true_iff.mp h3 with h | h
    · refine .inl fun d hd => ?_
      obtain ⟨p, hp, rfl⟩ := List.mem_map.mp hd
      have hh := List.all_eq_true.mp h p hp
      cases p with
      | tup l =>
        cases l with
        | nil => cases hh
        | cons y ys => exact ⟨toD y, toDs ys, by simp [toD, toDs]⟩
      | _ => cases hh
    · refine .inr fun d hd => ?_
      obtain ⟨p, hp, rfl⟩ := List.mem_map.mp hd
      have hh := List.all_eq_true.mp h p hp
      cases p <;> first | (simp [toD]; done) | cases hh
  have hb : ∀ b, b ∈ xs → X.A.units + 2 + (toD b).depth < cLine := fun b hb => by
    have hd : ∀ {ds : List PyData} {d : PyData}, d ∈ ds → d.depth ≤ PyData.depthAll ds := by
      intro ds
      induction ds with
      | nil => intro d h; cases h
      | cons e es ih =>
        intro d h
        simp only [PyData.depthAll]
        rcases List.mem_cons.mp h with rfl | h
        · omega
        · have := ih h; omega
    have := hd (ds := toDs xs) (d := toD b) (by rw [toDs_map]; exact List.mem_map.mpr ⟨b, hb, rfl⟩)
    omega
  have hsz : xs.length ≤ sizeLine := by rw [← sz_line]; exact h4
  have srt : xs.mergeSort (PySem.W.dataLe rev toD) = xs.mergeSort fun a b => cond rev (!ltD a b) (!ltD b a) := msort_congr fun a ha b hb => by
    rw [PySem.W.dataLe_eq]
    cases rev with
    | false => simp only [cond]; rw [ltD_toD 20 20 (dats_mem h1 b hb) (dats_mem h1 a ha) (allAlk_mem h2 hb ha)]
    | true => simp only [cond]; rw [ltD_toD 20 20 (dats_mem h1 a ha) (dats_mem h1 b hb) (allAlk_mem h2 ha hb)]
  have fin : ∀ out : List Value, out.length = xs.length → PySem.W.EachIs (fun u p => ∃ v, RelV v u ∧ Rp g w H v p) out (xs.mergeSort (PySem.W.dataLe rev toD)) → EP X pins σ Q (.ref (s.heap.objs.size + 1)) { s with heap := PyProof.Rows.sortedAll s.heap its (List.toArray out) } := fun out hlen ho => by
    rw [srt] at ho
    obtain ⟨ys, y1, y2⟩ := of_each ho
    obtain ⟨n, hn⟩ := PyProof.Rows.sortedAll_at s.heap its out.toArray
    have hf := I.hok.fresh (Nat.le_succ s.heap.objs.size)
    refine ⟨.ref (s.heap.objs.size + 1), upd H (s.heap.objs.size + 1) (.lst ys), I.laid (t' := s.toks) (fun b o e => PyProof.Rows.sortedAll_old e) (Nat.le_succ _) ⟨?_, out, n, y1, ?_⟩, rfl, q.fr _ _ _ rfl hf (.l y2)⟩
    · rw [y1.length, hlen]; exact hsz
    · exact hn
  rcases hkw with ⟨rfl, rfl⟩ | rfl
  · exact PySem.W.sorted_data (R := fun u p => ∃ v, RelV v u ∧ Rp g w H v p) (bs := xs) (enc := toD) hl.isList each er hal hsr hsz hb fin
  · exact PySem.W.sorted_rev_data (R := fun u p => ∃ v, RelV v u ∧ Rp g w H v p) (bs := xs) (enc := toD) hl.isList each er hal hsr hsz hb fin
end
end D

/-! D6: subscripts, slices, built-ins, by values. -/
namespace D
open PySem PySem.Spec PyProof.Rows L2
section
variable {g : Gx} {w : Wd} {H : Hp}
theorem hasK_map {κ : Type} [DecidableEq κ] (q : κ) : ∀ kvs : List (κ × V), hasK (kvs.map (·.1)) q = kvs.any fun kv => decide (kv.1 = q)
  | [] => rfl
  | kv :: kvs => by
    have := hasK_map q kvs
    unfold hasK at this ⊢
    simp only [List.map_cons, List.any_cons, this]
theorem rep_ok {κ : Type} [DecidableEq κ] {q : κ} {v : V} {p : PV} (hv : Rp g w H v p) : ∀ {kvs : List (κ × V)} {xs : List PV}, Rps g w H (kvs.map (·.2)) xs →
    (kvs.map fun kv => if kv.1 = q then (kv.1, v) else kv).map (·.1) = kvs.map (·.1) ∧ Rps g w H ((kvs.map fun kv => if kv.1 = q then (kv.1, v) else kv).map (·.2)) (repVs (kvs.map (·.1)) xs q p)
  | [], xs, h => by cases h; exact ⟨rfl, .nil⟩
  | kv :: kvs, xs, h => by
    cases h with
    | cons r t =>
      obtain ⟨h1, h2⟩ := rep_ok hv t
      simp only [List.map_cons, repVs]
      by_cases hk : kv.1 = q
      · simp only [if_pos hk]
        exact ⟨by rw [h1], .cons hv h2⟩
      · simp only [if_neg hk]
        exact ⟨by rw [h1], .cons r h2⟩
theorem putK_ok {κ : Type} [DecidableEq κ] {q : κ} {v : V} {p : PV} (hv : Rp g w H v p) {kvs : List (κ × V)} {xs : List PV} (h : Rps g w H (kvs.map (·.2)) xs) :
    (putK kvs q v).map (·.1) = putKs (kvs.map (·.1)) q ∧ Rps g w H ((putK kvs q v).map (·.2)) (putVs (kvs.map (·.1)) xs q p) := by
  unfold putK putKs putVs
  rw [hasK_map]
  by_cases hk : (kvs.any fun kv => decide (kv.1 = q)) = true
  · simp only [if_pos hk]
    exact rep_ok hv h
  · simp only [if_neg hk]
    rw [List.map_append, List.map_append]
    exact ⟨rfl, h.append (.cons hv .nil)⟩
theorem kV_ok : ∀ k : Key, okK k = true → Rp g w H (kV k) (keyPV k)
  | .inl i, _ => .int i
  | .inr x, h => .str x h
theorem keys_rps : ∀ ks : List Key, ks.all okK = true → Rps g w H (ks.map kV) (ks.map keyPV)
  | [], _ => .nil
  | k :: ks, h => by
    rw [List.all_cons] at h
    exact .cons (kV_ok k (Bool.and_eq_true_iff.mp h).1) (keys_rps ks (Bool.and_eq_true_iff.mp h).2)
theorem keysT_rps {P : Addr → Prop} : ∀ {kvs : List (List Key × V)} {bs : List Addr}, IsKeys H kvs bs → (∀ b ∈ bs, P b) → ((kvs.map (·.1)).all fun k => k.all okK) = true → Rps g (w.frzT P) H (bs.map V.ref) ((kvs.map (·.1)).map fun k => .tup (k.map keyPV))
  | _, _, .nil, _, _ => .nil
  | _, _, .cons (a := kv) (b := b) h t, hP, ok => by
    rw [List.map_cons, List.all_cons] at ok
    exact .cons (.tup (o := bareO []) (.inl (hP b (by simp))) (by rw [slk_kv]; exact h) (bareO_ok []) (keys_rps kv.1 (Bool.and_eq_true_iff.mp ok).1)) (keysT_rps t (fun c hc => hP c (by simp [hc])) (Bool.and_eq_true_iff.mp ok).2)
theorem isKeys_tup : ∀ {kvs : List (List Key × V)} {bs : List Addr}, IsKeys H kvs bs → ∀ b ∈ bs, ∃ vs, H b = some (.tup vs)
  | _, _, .nil, b, h => by simp at h
  | _, _, .cons h t, b, hb => by
    rcases List.mem_cons.mp hb with rfl | hb
    · exact ⟨_, h⟩
    · exact isKeys_tup t b hb
theorem toKey_rp {k : PV} {q : Key} {v : V} (e : toKey k = some q) (r : Rp g w H v k) : v = kV q := by
  cases k <;> simp only [toKey] at e <;> cases e <;> cases r <;> rfl
theorem pairs_rel : ∀ {xs : List PV} {vs : List V} {ks : List Key} {ps : List PV}, pairsK xs = some (ks, ps) → Rps g w H vs xs → ∃ (as : List Addr) (kvs : List (Key × V)), vs = as.map V.ref ∧ Paired (fun p kv => SqT g.K H p [kV kv.1, kv.2]) as kvs ∧ kvs.map (·.1) = ks ∧ Rps g w H (kvs.map (·.2)) ps
  | [], vs, ks, ps, e, r => by
    cases r
    simp only [pairsK] at e
    cases e
    exact ⟨[], [], rfl, .nil, rfl, .nil⟩
  | x :: xs, vs, ks, ps, e, r => by
    cases r with
    | cons r t =>
    unfold pairsK at e
    split at e
    · rename_i heq
      cases heq
    · rename_i k v0 r0 heq
      cases heq
      split at e
      · rename_i q ks' vs' e1 e2
        cases e
        obtain ⟨as, kvs, rfl, h1, rfl, h2⟩ := pairs_rel e2 t
        cases r with
        | tup f h hb rr =>
          cases rr with
          | cons ra rb =>
            cases rb with
            | cons rv rn =>
              cases rn
              rename_i a ob v1 v2
              have ek := toKey_rp e1 ra
              subst ek
              exact ⟨a :: as, (q, v2) :: kvs, rfl, .cons (.inl (tupH_rd h)) h1, rfl, .cons rv h2⟩
      · cases e
    · cases e
theorem mrg_ok : ∀ {kvs : List (Key × V)} {ps : List PV} {acc : List (Key × V)} {aps : List PV}, Rps g w H (acc.map (·.2)) aps → Rps g w H (kvs.map (·.2)) ps → NewOk g w H (.dK (mergeK acc kvs)) (mrgP (acc.map (·.1)) aps (kvs.map (·.1)) ps)
  | [], ps, acc, aps, h, r => by
    cases r
    exact .k rfl h
  | kv :: kvs, ps, acc, aps, h, r => by
    cases r with
    | cons r t =>
      obtain ⟨h1, h2⟩ := putK_ok (q := kv.1) r h
      have := mrg_ok h2 t
      rw [h1] at this
      exact this
end
section
variable {X : Cx} {g : Gx}

/-! ### subscripts -/
def rX (g : Gx) : R2 := fun x y H Q => ∃ w p q r, Lk g w H x p ∧ Lk g w H y q ∧ idxV p q = some r ∧ ∀ v, Rp g w H v r → Q v H
theorem atI_rel {w : Wd} {H : Hp} {vs : List V} {xs : List PV} {i : Int} {p : PV} (r : Rps g w H vs xs) (e : atI xs i = some p) : ∃ v, atI vs i = some v ∧ Rp g w H v p := by
  unfold atI at e ⊢
  rw [r.length]
  cases q : ixN xs.length i with
  | none => rw [q] at e; cases e
  | some j =>
    rw [q] at e
    exact r.get e
theorem okS_1c {z : Str} {c : Nat} (h : okS z = true) (hc : c ∈ z.cps.toList) : okS ⟨#[c]⟩ = true := by
  refine okS_of ?_ (by show 1 ≤ sz; unfold sz; omega)
  exact strOk_of (l := [c]) fun d hd => by
    have : d = c := by simpa using hd
    subst this
    exact strOk_iff.mp (okS_1 h) d hc
theorem atI_mem {α : Type} {xs : List α} {i : Int} {c : α} (e : atI xs i = some c) : c ∈ xs := by
  unfold atI at e
  cases q : ixN xs.length i with
  | none => rw [q] at e; cases e
  | some j =>
    rw [q] at e
    exact List.mem_of_getElem? e
/-- an item of a dict -/
theorem tail_dict {pins : List (Addr × Obj)} {s : Shared} {σ : L2.St} {H : Hp} {a : Addr} {y v : V} {u : Value} {Q : VK} {value slice : Expr} (hu : X.A.units + 1 < cLine) (I : Inv X pins σ H s) (dg : DGet H a y (some v)) (ry : RelV y u)
    (hs : subscripted slice false (.ref a) u = operate [.ref a, u] (getItem (.ref a) u)) (q : Q v H) : wpAny (model X.prog X.w) X.A (subscriptTail value slice (.ref a) u) (EP X pins σ Q) X.xe s := by
  have hT := dict_typeIs I dg
  have hl := PySem.F.slot_dict_getitem.lookup
  unfold subscriptTail
  refine wpAny_bind ?_
  rw [getitemInPython_of_ne hT.not_modules]
  refine wpAny_bind (wpAny_specialOf hT hl ?_)
  have fin : wpAny (model X.prog X.w) X.A (subscripted slice false (.ref a) u) (fun r s₃ => wpAny (model X.prog X.w) X.A (letTemporaryGo value (.ref a) r >>= fun _ => pure r) (EP X pins σ Q) X.xe s₃) X.xe s := by
    rw [hs]
    exact wpAny_operating (d_getItem hu I dg ry fun w' s3 I3 rw' => wpAny_bind (wpAny_letTemporaryGo (wpAny_pure ⟨v, H, I3, rw', q⟩)))
  first
    | exact wpAny_pure (wpAny_bind fin)
    | exact wpAny_bind (wpAny_pure (wpAny_bind fin))
    | exact wpAny_bind fin
theorem rx_op (hK : X.K = g.K) (hu : X.A.units + 1 < cLine) : IxR X (rX g) := by
  intro value slice pins s σ H x y v u Q I rx ry h hs
  obtain ⟨w, p, q, r, lx, ly, e, hq⟩ := h
  unfold idxV at e
  split at e
  · obtain ⟨a, vs, rfl, e1, r1⟩ := lx.lst
    rw [ly.int] at ry
    obtain ⟨z, h1, h2⟩ := atI_rel r1 e
    exact ix_list value slice pins s σ H _ _ v u Q I rx ry ⟨a, vs, _, z, rfl, rfl, SqL.of e1, h1, hq z h2⟩ hs
  · obtain ⟨a, vs, rfl, e1, r1⟩ := lx.tup
    rw [ly.int] at ry
    obtain ⟨z, h1, h2⟩ := atI_rel r1 e
    exact ix_tup value slice pins s σ H _ _ v u Q I rx ry ⟨a, vs, _, z, rfl, rfl, .inl e1, h1, hq z h2⟩ hs
  · rename_i ns i
    obtain ⟨a, rfl, ls⟩ := lx.scr
    rw [ly.int] at ry
    cases q2 : atI ns i with
    | none => rw [q2] at e; cases e
    | some m =>
      rw [q2] at e
      cases e
      have h1 : atI (ns.map V.int) i = some (.int m) := by
        unfold atI at q2 ⊢
        rw [List.length_map]
        cases q3 : ixN ns.length i with
        | none => rw [q3] at q2; cases q2
        | some j =>
          rw [q3] at q2
          show (ns.map V.int)[j]? = _
          rw [List.getElem?_map, show ns[j]? = some m from q2]
          rfl
      have hsq : SqL X.K H a (ns.map V.int) := by rw [hK]; exact ls.sql
      exact ix_list value slice pins s σ H _ _ v u Q I rx ry ⟨a, _, _, _, rfl, rfl, hsq, h1, hq _ (.int m)⟩ hs
  · rename_i z i
    split at e
    · rename_i c ec
      cases e
      obtain ⟨ex, ok⟩ := lx.str
      rw [ex] at rx; rw [ly.int] at ry
      exact ix_str value slice pins s σ H _ _ v u Q I rx ry ⟨z, i, c, rfl, rfl, by rw [← sz_line]; exact okS_2 ok, ec, hq _ (.str _ (okS_1c ok (atI_mem ec)))⟩ hs
    · cases e
  · split at e
    · rename_i o eo
      subst e
      obtain ⟨a, r1, rfl, dg, hr⟩ := dget_ok eo lx ly
      rcases hr with ⟨h1, _⟩ | ⟨p, v1, h1, rfl, h3⟩
      · cases h1
      · cases h1
        cases rx
        exact tail_dict hu I dg ry hs (hq _ h3)
    · cases e
/-! ### slices -/
theorem cutP_rel {w : Wd} {H : Hp} {vs : List V} {xs : List PV} (r : Rps g w H vs xs) (lo hi : Option Int) : Rps g w H (cutV vs lo hi) (cutP xs lo hi) := by
  unfold cutV cutP
  rw [r.length]
  exact (r.drop _).take _
def rS (g : Gx) : V → Option Int → Option Int → Hp → VK → Prop := fun x lo hi H Q => ∃ w p r, Lk g w H x p ∧ sliceV p lo hi = some r ∧ Res g w H r Q
theorem okS_cut {z : Str} {lo hi : Option Int} (h : okS z = true) : okS (cutS z lo hi) = true := by
  have hm : ∀ c ∈ (z.cps.toList.drop (HT.sIx z.length 0 lo)).take (HT.sIx z.length z.length hi - HT.sIx z.length 0 lo), c ∈ z.cps.toList := fun c hc => List.mem_of_mem_drop (List.mem_of_mem_take hc)
  refine okS_of (strOk_of fun c hc => strOk_iff.mp (okS_1 h) c (hm c hc)) ?_
  have h2 := okS_2 h
  unfold cutS
  show ((z.cps.toList.drop _).take _).toArray.size ≤ sz
  rw [List.size_toArray, List.length_take, List.length_drop]
  have : z.cps.toList.length = z.length := by simp [Str.length]
  omega
theorem rs_op : SlR X (rS g) := by
  have key : ∀ (x : V) (lo hi : Option Int) (H : Hp) (Q : VK), rS g x lo hi H Q → (rSlL X.K x lo hi H Q ∨ rSlB X.K x lo hi H Q) ∨ rSlS x lo hi H Q := by
    intro x lo hi H Q ⟨w, p, r, lx, e, res⟩
    unfold sliceV at e
    split at e
    · cases e
      obtain ⟨a, vs, rfl, e1, r1⟩ := lx.lst
      exact .inl (.inl ⟨a, vs, rfl, SqL.of e1, fun q hq => res.fr _ _ _ rfl hq (.l (cutP_rel r1 lo hi))⟩)
    · rename_i xs
      cases e
      have lx' := lx
      obtain ⟨a, vs, rfl, e1, r1⟩ := lx.tup
      refine .inl (.inr ⟨a, vs, rfl, .inl e1, fun ⟨h1, h2⟩ => ?_, fun _ => ⟨_, fun q o hq hb => res.tu _ _ _ o rfl hq hb (cutP_rel r1 lo hi)⟩⟩)
      have ec : cutP xs lo hi = xs := by
        unfold cutP
        rw [← r1.length, h1, h2, List.drop_zero, Nat.sub_zero, r1.length, List.take_length]
      refine res.va _ _ rfl ?_
      rw [ec]
      rcases lx' with k | ⟨_, c, _, e, _⟩
      · exact k
      · exact absurd e.symm (Ct.pv_ne.2.2.2.2.1 _)
    · cases e
      obtain ⟨ex, ok⟩ := lx.str
      exact .inr ⟨_, ex, by rw [← sz_line]; exact okS_2 ok, res.va _ _ rfl (.str _ (okS_cut ok))⟩
    · cases e
  have h := SlR.or (SlR.or sl_list sl_tupB) (sl_str (X := X))
  intro pins s σ H x v vl vu lo hi sl Q I rx hs pl pu q
  exact h pins s σ H x v vl vu lo hi sl Q I rx hs pl pu (key x lo hi H Q q)

/-! ### built-ins -/
inductive Lks (g : Gx) (w : Wd) (H : Hp) : List V → List PV → Prop
  | nil : Lks g w H [] []
  | cons {v : V} {vs : List V} {x : PV} {xs : List PV} (r : Lk g w H v x) (t : Lks g w H vs xs) : Lks g w H (v :: vs) (x :: xs)
theorem Lks.one {w : Wd} {H : Hp} {vs : List V} {p : PV} (h : Lks g w H vs [p]) : ∃ v, vs = [v] ∧ Lk g w H v p := by
  cases h with
  | cons r t => cases t; exact ⟨_, rfl, r⟩
theorem Lks.two {w : Wd} {H : Hp} {vs : List V} {p q : PV} (h : Lks g w H vs [p, q]) : ∃ v u, vs = [v, u] ∧ Lk g w H v p ∧ Lk g w H u q := by
  cases h with
  | cons r t => cases t with
    | cons r2 t2 => cases t2; exact ⟨_, _, rfl, r, r2⟩
theorem bls_of {w : Wd} {H : Hp} : ∀ {xs : List PV} {l : List Bool} {vs : List V}, asBls xs = some l → Rps g w H vs xs → vs = l.map V.bl
  | [], l, vs, e, r => by
    cases r
    simp only [asBls] at e
    cases e
    rfl
  | x :: xs, l, vs, e, r => by
    cases r with
    | cons r1 r2 =>
      cases x with
      | bl b =>
        simp only [asBls] at e
        split at e
        · rename_i l' e'
          cases e
          rw [bls_of e' r2]
          cases r1
          rfl
        · cases e
      | _ => simp [asBls] at e
theorem ints_of {w : Wd} {H : Hp} : ∀ {xs : List PV} {l : List Int} {vs : List V}, asInts xs = some l → Rps g w H vs xs → vs = l.map V.int
  | [], l, vs, e, r => by
    cases r
    simp only [asInts] at e
    cases e
    rfl
  | x :: xs, l, vs, e, r => by
    cases r with
    | cons r1 r2 =>
      cases x with
      | int b =>
        simp only [asInts] at e
        split at e
        · rename_i l' e'
          cases e
          rw [ints_of e' r2]
          cases r1
          rfl
        · cases e
      | _ => simp [asInts] at e
theorem rps_ints {w : Wd} {H : Hp} : ∀ l : List Int, Rps g w H (l.map V.int) (l.map PV.int)
  | [] => .nil
  | x :: l => .cons (.int x) (rps_ints l)
theorem maxI_ok : ∀ {l : List Int} {m : Int}, maxI l = some m → ∀ n, n ∈ l → (∀ y, y ∈ l → y ≤ n) → n = m := by
  intro l m e n hn hle
  cases l with
  | nil => cases e
  | cons x xs =>
    simp only [maxI, Option.some.injEq] at e
    have key : ∀ (xs : List Int) (x : Int), (xs.foldl (fun a b => if b > a then b else a) x) ∈ x :: xs ∧ ∀ y ∈ x :: xs, y ≤ xs.foldl (fun a b => if b > a then b else a) x := by
      intro xs
      induction xs with
      | nil => intro x; simp
      | cons z zs ih =>
        intro x
        rw [List.foldl_cons]
        by_cases h : z > x
        · rw [if_pos h]
          obtain ⟨h1, h2⟩ := ih z
          refine ⟨List.mem_cons_of_mem _ h1, fun y hy => ?_⟩
          rcases List.mem_cons.mp hy with rfl | hy
          · have := h2 z (List.mem_cons_self ..)
            omega
          · exact h2 y hy
        · rw [if_neg h]
          obtain ⟨h1, h2⟩ := ih x
          refine ⟨?_, fun y hy => ?_⟩
          · rcases List.mem_cons.mp h1 with e | h1
            · rw [e]; exact List.mem_cons_self ..
            · exact List.mem_cons_of_mem _ (List.mem_cons_of_mem _ h1)
          · rcases List.mem_cons.mp hy with rfl | hy
            · exact h2 y (List.mem_cons_self ..)
            · rcases List.mem_cons.mp hy with rfl | hy
              · have := h2 x (List.mem_cons_self ..)
                omega
              · exact h2 y (List.mem_cons_of_mem _ hy)
    obtain ⟨k1, k2⟩ := key xs x
    rw [e] at k1 k2
    have h1 := hle m k1
    have h2 := k2 n hn
    omega
theorem insI_perm (x : Int) : ∀ l, (insI x l).Perm (x :: l)
  | [] => .refl _
  | y :: ys => by
    simp only [insI]
    split
    · exact .refl _
    · exact ((insI_perm x ys).cons y).trans (.swap ..)
theorem sortI_perm : ∀ l, (sortI l).Perm l
  | [] => .refl _
  | x :: xs => (insI_perm x _).trans ((sortI_perm xs).cons x)
theorem insI_sorted (x : Int) : ∀ l : List Int, l.Pairwise (· ≤ ·) → (insI x l).Pairwise (· ≤ ·)
  | [], _ => List.pairwise_singleton ..
  | y :: ys, h => by
    simp only [insI]
    rw [List.pairwise_cons] at h
    split
    · rename_i hx
      refine List.pairwise_cons.mpr ⟨fun z hz => ?_, List.pairwise_cons.mpr h⟩
      rcases List.mem_cons.mp hz with rfl | hz
      · exact hx
      · exact Int.le_trans hx (h.1 z hz)
    · rename_i hx
      refine List.pairwise_cons.mpr ⟨fun z hz => ?_, insI_sorted x ys h.2⟩
      rcases List.mem_cons.mp ((insI_perm x ys).mem_iff.mp hz) with rfl | hz
      · omega
      · exact h.1 z hz
theorem sortI_sorted : ∀ l, (sortI l).Pairwise (· ≤ ·)
  | [] => .nil
  | x :: xs => insI_sorted x _ (sortI_sorted xs)
theorem sorted_one : ∀ {l m : List Int}, l.Perm m → l.Pairwise (· ≤ ·) → m.Pairwise (· ≤ ·) → l = m
  | [], m, p, _, _ => by rw [p.nil_eq]
  | x :: xs, m, p, h1, h2 => by
    cases m with
    | nil => exact absurd p.symm.nil_eq (by simp)
    | cons y ys =>
      rw [List.pairwise_cons] at h1 h2
      have hx : x ∈ y :: ys := p.mem_iff.mp (List.mem_cons_self ..)
      have hy : y ∈ x :: xs := p.mem_iff.mpr (List.mem_cons_self ..)
      have e : x = y := by
        rcases List.mem_cons.mp hx with e | hx
        · exact e
        · rcases List.mem_cons.mp hy with e | hy
          · exact e.symm
          · have a1 := h1.1 y hy
            have a2 := h2.1 x hx
            omega
      subst e
      rw [sorted_one (List.perm_cons _ |>.mp p) h1.2 h2.2]
def bfV : BF → Value
  | .len => .builtin "len" | .all => .builtin "all" | .any => .builtin "any" | .list => .type "list" | .tuple => .type "tuple" | .max => .builtin "max" | .sum => .builtin "sum" | .int => .type "int" | .str => .type "str" | .sortedI => .builtin "sorted" | .lenset => .none | .sortedD => .builtin "sorted" | .dict => .type "dict" | .sortSet => .none
def bfN : BF → Str
  | .len => "len" | .all => "all" | .any => "any" | .list => "list" | .tuple => "tuple" | .max => "max" | .sum => "sum" | .int => "int" | .str => "str" | .sortedI => "sorted" | .lenset => "lenset" | .sortedD => "sorted" | .dict => "dict" | .sortSet => "sorted"
def rF (g : Gx) (f : BF) : List V → Hp → VK → Prop := fun vs H Q => ∃ w ps r, Lks g w H vs ps ∧ bltV f ps = some r ∧ Res g w H r Q
theorem rf_op (hK : X.K = g.K) (hu : X.A.units + 65 < cLine) (hc : X.calm = true) (f : BF) (hf : f ≠ .lenset) (hf2 : f ≠ .sortSet) : CallR X (bfV f) (rF g f) := by
  intro pins s σ H vs us Q I rv h
  obtain ⟨w, ps, r, lk, e, res⟩ := h
  unfold bltV at e
  split at e
  · obtain ⟨v, rfl, l⟩ := lk.one
    split at e
    · rename_i n en
      cases e
      have q := res.va _ _ rfl (.int _)
      unfold lenV at en
      split at en <;> cases en
      · obtain ⟨a, xs, rfl, e1, r1⟩ := l.lst
        rw [← r1.length] at q
        exact call_len_seq pins s σ H _ us Q I rv ⟨a, xs, rfl, .inl (SqL.of e1), q⟩
      · rename_i ns
        obtain ⟨a, rfl, ls⟩ := l.scr
        have hsq : SqL X.K H a (ns.map V.int) := by rw [hK]; exact ls.sql
        refine call_len_seq pins s σ H _ us Q I rv ⟨a, _, rfl, .inl hsq, ?_⟩
        rw [List.length_map]
        exact q
      · obtain ⟨a, xs, rfl, e1, r1⟩ := l.tup
        rw [← r1.length] at q
        exact call_len_seq pins s σ H _ us Q I rv ⟨a, xs, rfl, .inr (.inl e1), q⟩
      · obtain ⟨ex, ok⟩ := l.str
        exact call_len_str pins s σ H _ us Q I rv ⟨_, by rw [ex], by rw [← sz_line]; exact okS_2 ok, q⟩
      · obtain ⟨a, kvs, rfl, e1, rfl, r1⟩ := l.dk
        rw [List.length_map] at q
        exact call_lenD pins s σ H _ us Q I rv ⟨a, kvs, rfl, e1, q⟩
      · obtain ⟨a, kvs, rfl, e1, rfl, r1⟩ := l.dt
        rw [List.length_map] at q
        exact call_len_dT pins s σ H _ us Q I rv ⟨a, kvs, rfl, e1, q⟩
    · cases e
  · obtain ⟨v, rfl, l⟩ := lk.one
    split at e
    · rename_i bs eb
      cases e
      obtain ⟨a, xs, rfl, e1, r1⟩ := l.lst
      rw [bls_of eb r1] at e1
      exact cr_all hc pins s σ H _ us Q I rv ⟨a, bs, rfl, SqL.of e1, res.va _ _ rfl (.bl _)⟩
    · cases e
  · obtain ⟨v, rfl, l⟩ := lk.one
    split at e
    · rename_i bs eb
      cases e
      obtain ⟨a, xs, rfl, e1, r1⟩ := l.lst
      rw [bls_of eb r1] at e1
      exact cr_any hc pins s σ H _ us Q I rv ⟨a, bs, rfl, SqL.of e1, res.va _ _ rfl (.bl _)⟩
    · cases e
  · cases e
    obtain ⟨v, rfl, l⟩ := lk.one
    obtain ⟨a, xs, rfl, e1, r1⟩ := l.lst
    exact call_list_of pins s σ H _ us Q I rv ⟨a, xs, rfl, .inl (SqL.of e1), fun b hb => res.fr _ _ _ rfl hb (.l r1)⟩
  · cases e
    obtain ⟨v, rfl, l⟩ := lk.one
    obtain ⟨a, xs, rfl, e1, r1⟩ := l.tup
    exact call_list_of pins s σ H _ us Q I rv ⟨a, xs, rfl, .inr (.inl e1), fun b hb => res.fr _ _ _ rfl hb (.l r1)⟩
  · obtain ⟨v, rfl, l⟩ := lk.one
    split at e
    · rename_i ok
      cases e
      obtain ⟨a, kvs, rfl, e1, rfl, r1⟩ := l.dk
      refine call_list_dK hc pins s σ H _ us Q I rv ⟨a, kvs, rfl, e1, fun b hb => ?_⟩
      have : (kvs.map fun kv => kV kv.1) = (kvs.map (·.1)).map kV := by rw [List.map_map]; rfl
      rw [this]
      exact res.fr _ _ _ rfl hb (.l (keys_rps _ ok))
    · cases e
  · obtain ⟨v, rfl, l⟩ := lk.one
    split at e
    · rename_i ok
      cases e
      obtain ⟨a, kvs, rfl, e1, rfl, r1⟩ := l.dt
      exact call_list_dT hc pins s σ H _ us Q I rv ⟨a, kvs, rfl, .inl e1, fun b bs hb hk => res.fz _ _ _ (fun c => c ∈ bs) rfl hb (isKeys_tup hk) (.l (keysT_rps hk (fun _ h => h) ok))⟩
    · cases e
  · obtain ⟨v, rfl, l⟩ := lk.one
    split at e
    · rename_i ks ps ep
      cases e
      obtain ⟨a, xs, rfl, e1, r1⟩ := l.lst
      obtain ⟨as, kvs, rfl, h1, rfl, h2⟩ := pairs_rel ep r1
      exact call_dictP hc pins s σ H _ us Q I rv ⟨a, as, kvs, rfl, SqL.of e1, by rw [hK]; exact h1, fun b hb => res.fr _ _ _ rfl hb (mrg_ok (acc := []) .nil h2)⟩
    · cases e
  · obtain ⟨v, rfl, l⟩ := lk.one
    split at e
    · rename_i hsl
      split at e
      · rename_i ks ps ep
        cases e
        obtain ⟨a, xs, o, rfl, e1, hb, r1⟩ := l.tupB hsl
        obtain ⟨as, kvs, rfl, h1, rfl, h2⟩ := pairs_rel ep r1
        exact call_dictB hc pins s σ H _ us Q I rv ⟨a, o, as, kvs, rfl, e1, hb, by rw [hK]; exact h1, fun b hb => res.fr _ _ _ rfl hb (mrg_ok (acc := []) .nil h2)⟩
      · cases e
    · cases e
  · cases e
    obtain ⟨v, rfl, l⟩ := lk.one
    obtain ⟨a, xs, rfl, e1, r1⟩ := l.lst
    exact call_tupleB pins s σ H _ us Q I rv ⟨a, xs, rfl, SqL.of e1, _, fun b o hb hbb => res.tu _ _ _ o rfl hb hbb r1⟩
  · cases e
    obtain ⟨v, rfl, l⟩ := lk.one
    have l' := l
    obtain ⟨a, xs, rfl, e1, r1⟩ := l.tup
    refine call_tuple_of pins s σ H _ us Q I rv ⟨a, xs, rfl, .inr ⟨.inl e1, res.va _ _ rfl ?_⟩⟩
    rcases l' with k | ⟨_, c, _, e, _⟩
    · exact k
    · exact absurd e.symm (Ct.pv_ne.2.2.2.2.1 _)
  · obtain ⟨v, rfl, l⟩ := lk.one
    split at e
    · rename_i ns en
      split at e
      · rename_i m em
        cases e
        obtain ⟨a, xs, rfl, e1, r1⟩ := l.lst
        rw [ints_of en r1] at e1
        refine cr_max hc pins s σ H _ us Q I rv ⟨a, ns, rfl, SqL.of e1, ?_, fun n hn hle => ?_⟩
        · cases ns with
          | nil => cases em
          | cons _ _ => simp
        · rw [maxI_ok em n hn hle]
          exact res.va _ _ rfl (.int _)
      · cases e
    · cases e
  · obtain ⟨v, rfl, l⟩ := lk.one
    split at e
    · rename_i ns en
      cases e
      obtain ⟨a, xs, rfl, e1, r1⟩ := l.lst
      rw [ints_of en r1] at e1
      exact cr_sum hc pins s σ H _ us Q I rv ⟨a, ns, rfl, SqL.of e1, res.va _ _ rfl (.int _)⟩
    · cases e
  · cases e
    obtain ⟨v, rfl, l⟩ := lk.one
    rw [l.int] at rv
    exact call_int1 pins s σ H _ us Q I rv (.inl ⟨_, rfl, res.va _ _ rfl (.int _)⟩)
  · cases e
    obtain ⟨v, rfl, l⟩ := lk.one
    rw [l.bl] at rv
    exact call_int1 pins s σ H _ us Q I rv (.inr ⟨_, rfl, res.va _ _ rfl (.int _)⟩)
  · obtain ⟨v, rfl, l⟩ := lk.one
    split at e
    · rename_i ns en
      cases e
      obtain ⟨a, xs, rfl, e1, r1⟩ := l.lst
      rw [ints_of en r1] at e1
      refine cr_sortedI pins s σ H _ us Q I rv ⟨a, ns, rfl, SqL.of e1, fun ns' p h1 h2 hp => ?_⟩
      rw [sorted_one (h1.trans (sortI_perm ns).symm) h2 (sortI_sorted ns)]
      exact res.fr _ _ _ rfl hp (.l (rps_ints _))
    · cases e
  · exact absurd rfl hf
  · exact absurd rfl hf2
  · obtain ⟨v, rfl, l⟩ := lk.one
    split at e
    · rename_i hb
      cases e
      simp only [Bool.and_eq_true, decide_eq_true_eq] at hb
      exact sorted_op (rev := false) hK hu I rv l hb.1.1.1 hb.1.1.2 hb.1.2 hb.2 res (.inl ⟨rfl, rfl⟩)
    · cases e
  · cases e

/-! ### isinstance -/
def tyN : TY → String
  | .str => "str" | .int => "int" | .bool => "bool" | .tuple => "tuple" | .list => "list" | .exc _ => ""
theorem isi_op {pins : List (Addr × Obj)} {s : Shared} {σ : L2.St} {H : Hp} {v : V} {us : List Value} {Q : VK} {w : Wd} {p : PV} {ty : TY} {b : Bool} (I : Inv X pins σ H s) (rv : Vals [v, .ty (tyN ty)] us) (l : Lk g w H v p) (e : isiV ty p = some b) (q : Q (.bl b) H) : wpAny (model X.prog X.w) X.A (call (.builtin "isinstance") us) (EP X pins σ Q) X.xe s := by
  have go : ∀ (t : String), TyX X.K H v (.type t) → kitB t (tyN ty) = some b → wpAny (model X.prog X.w) X.A (call (.builtin "isinstance") us) (EP X pins σ Q) X.xe s := fun t ht hk =>
    call_isi pins s σ H _ us Q I rv ⟨v, .ty (tyN ty), .type t, .type (tyN ty), b, rfl, .ty _, ht, kit_ty hk, q⟩
  cases p with
  | non =>
    rcases l with k | ⟨_, c, _, e', _⟩
    · cases k
      refine go "NoneType" (.base .non) ?_
      cases ty <;> simp only [isiV] at e <;> cases e <;> decide +kernel
    · exact absurd e'.symm Ct.pv_ne.2.2.2.1
  | bl x =>
    rw [l.bl] at go
    refine go "bool" (.base (.bl x)) ?_
    cases ty <;> simp only [isiV] at e <;> cases e <;> decide +kernel
  | int x =>
    rw [l.int] at go
    refine go "int" (.base (.int x)) ?_
    cases ty <;> simp only [isiV] at e <;> cases e <;> decide +kernel
  | str x =>
    rw [l.str.1] at go
    refine go "str" (.base (.str x)) ?_
    cases ty <;> simp only [isiV] at e <;> cases e <;> decide +kernel
  | tup xs =>
    obtain ⟨a, vs, rfl, e1, r1⟩ := l.tup
    have ht : TyX X.K H (.ref a) (.type "tuple") := by
      rcases e1 with e1 | ⟨o, e1⟩
      · exact .base (.tup e1)
      · exact .fTuple e1
    refine go "tuple" ht ?_
    cases ty <;> simp only [isiV] at e <;> cases e <;> decide +kernel
  | lst xs =>
    obtain ⟨a, vs, rfl, e1, r1⟩ := l.lst
    refine go "list" (.base (.lst e1)) ?_
    cases ty <;> simp only [isiV] at e <;> cases e <;> decide +kernel
  | dk ks xs =>
    obtain ⟨a, vs, rfl, e1, r1⟩ := l.dk
    refine go "dict" (.base (.dK e1)) ?_
    cases ty <;> simp only [isiV] at e <;> cases e <;> decide +kernel
  | dt ks xs =>
    obtain ⟨a, vs, rfl, e1, r1⟩ := l.dt
    refine go "dict" (.base (.dT e1)) ?_
    cases ty <;> simp only [isiV] at e <;> cases e <;> decide +kernel
  | obj n => simp [isiV] at e
  | scr n => simp [isiV] at e
  | exc n => simp [isiV] at e
end
end D

/-! D6M: methods of lists, texts, dicts. -/
namespace D
open PySem PySem.Spec PyProof.Rows L2
section
variable {X : Cx} {g : Gx}
def mbT : MB → String
  | .index => "list" | .count => "list" | .join => "str" | .split => "str" | .get => "dict"
def mbN : MB → Str
  | .index => "index" | .count => "count" | .join => "join" | .split => "split" | .get => "get"
def mbI : MB → String
  | .index => "list.index" | .count => "list.count" | .join => "str.join" | .split => "str.split" | .get => "dict.get"
def rM (g : Gx) (m : MB) : V → List V → Hp → VK → Prop := fun x xs H Q => ∃ w p ps r, Lk g w H x p ∧ Lks g w H xs ps ∧ methV m p ps = some r ∧ Res g w H r Q
theorem strs_of {w : Wd} {H : Hp} : ∀ {xs : List PV} {l : List Str} {vs : List V}, asStrs xs = some l → Rps g w H vs xs → vs = l.map V.str ∧ ∀ x ∈ l, okS x = true
  | [], l, vs, e, r => by
    cases r
    simp only [asStrs] at e
    cases e
    exact ⟨rfl, fun x h => by cases h⟩
  | x :: xs, l, vs, e, r => by
    cases r with
    | cons r1 r2 =>
      cases x with
      | str b =>
        simp only [asStrs] at e
        split at e
        · rename_i l' e'
          cases e
          obtain ⟨h1, h2⟩ := strs_of e' r2
          rw [h1]
          cases r1 with
          | str _ hok => exact ⟨rfl, fun x hx => by
              rcases List.mem_cons.mp hx with rfl | hx
              · exact hok
              · exact h2 x hx⟩
        · cases e
      | _ => simp [asStrs] at e
theorem strOk_join {a : Str} (ha : PyData.strOk a = true) : ∀ {l : List Str}, (∀ x ∈ l, PyData.strOk x = true) → PyData.strOk (PySem.Str.join a l) = true
  | [], _ => strOk_of (l := []) fun c hc => by cases hc
  | [x], h => h x (by simp)
  | x :: y :: r, h => by
    show PyData.strOk (x ++ a ++ PySem.Str.join a (y :: r)) = true
    exact strOk_app (strOk_app (h x (by simp)) ha) (strOk_join ha fun z hz => h z (List.mem_cons_of_mem _ hz))
theorem okS_join {a : Str} (ha : okS a = true) {l : List Str} (h : ∀ x ∈ l, okS x = true) (hz : (l.map (·.length)).sum + l.length * a.length ≤ sz) : okS (PySem.Str.join a l) = true :=
  okS_of (strOk_join (okS_1 ha) fun x hx => okS_1 (h x hx)) (Nat.le_trans (StrLaws.join_length_le a l) hz)
theorem findI_spec {x : PV} : ∀ {ys : List PV} {j : Nat}, findI x ys = some j → ∃ z, ys[j]? = some z ∧ eqv z x = true ∧ ∀ (m : Nat) (z' : PV), m < j → ys[m]? = some z' → eqv z' x = false
  | [], j, h => by simp [findI] at h
  | y :: ys, j, h => by
    simp only [findI] at h
    split at h
    · rename_i hy
      cases h
      exact ⟨y, rfl, hy, fun m z hm => absurd hm (Nat.not_lt_zero m)⟩
    · rename_i hy
      cases q : findI x ys with
      | none => rw [q] at h; cases h
      | some i =>
        rw [q] at h
        cases h
        obtain ⟨z, h1, h2, h3⟩ := findI_spec q
        refine ⟨z, by simpa using h1, h2, fun m z' hm hz => ?_⟩
        cases m with
        | zero =>
          simp at hz
          subst hz
          simpa using hy
        | succ m => exact h3 m z' (Nat.lt_of_succ_lt_succ hm) (by simpa using hz)
theorem toDs_get : ∀ {ys : List PV} {j : Nat} {z : PV}, ys[j]? = some z → (toDs ys)[j]? = some (toD z) := fun {ys j z} h => by
  rw [toDs_map, List.getElem?_map, h]; rfl
/-- l.count(x) -/
def rCountD (K : PySem.W.Frag) : V → List V → Hp → VK → Prop := fun x xs H Q => ∃ (a : Addr) (y : V) (d : PyData) (ds : List PyData), x = V.ref a ∧ xs = [y] ∧ Dp K H (V.ref a) (.list ds) ∧ Dp K H y d ∧
  SeqAt.shaped (.list ds) = true ∧ SeqAt.shaped d = true ∧ Q (.int (ds.countP fun z => PyData.eqv z d : Nat)) H
theorem mt_countD (hu : X.A.units + 65 < cLine) : MtR X "list.count" (rCountD X.K) := by
  intro pins s σ H x xs v us Q I rx rxs h
  obtain ⟨a, y, d, ds, rfl, rfl, hl, hy, sl, sd, q⟩ := h
  cases rx
  cases rxs with
  | cons ry rt =>
    rename_i uy ut
    cases rt
    obtain ⟨bs, r1⟩ := Dp.reads I d y uy hy ry
    have hxs : PyData.canLayAll0 ds = true := SeqAt.canLay_of_shaped sl
    have hroom : X.A.units + 1 + min (PyData.depthAll ds) d.depth < cLine := room_in_shaped sd hu
    cases hl with
    | lst hs ha =>
      obtain ⟨its, rv, ⟨⟨cls, dd, data, sls⟩, n, ho, hc, hdn, hdt⟩, hlen⟩ := I.list hs
      simp only at hc hdt
      subst hc hdt
      obtain ⟨as, h4⟩ := Dp.readsAll I ds _ its ha rv
      have hmap : its.map (SeqAt.readOf s.heap) = ds := SeqAt.readsAll_map ds its as hxs h4
      refine call_meets PySem.F.slot_list_count ⟨_, ho, rfl⟩ PySem.F.entry_list_count (PySem.F.args_list_count_2 _ _)
        (SeqAt.list_countAt a its.toArray n dd sls uy (fun u => PyData.eqv (SeqAt.readOf s.heap u) d)) ⟨ho, SeqAt.items_eqAt (vs := its.toArray) (show ReadsAll s.heap its.toArray.toList ds as from h4) r1 hxs (SeqAt.canLay_of_shaped sd) hroom, ?_⟩
      have ec : its.toArray.toList.countP (fun u => PyData.eqv (SeqAt.readOf s.heap u) d) = ds.countP fun z => PyData.eqv z d := by
        rw [← hmap, List.countP_map]
        rfl
      refine ⟨.int (ds.countP fun z => PyData.eqv z d : Nat), H, I.tok _, ⟨s.toks, ?_⟩, q⟩
      rw [← ec]
theorem cnt_toD {n m : Nat} {x : PV} (hx : dat n x = true) : ∀ {ys : List PV}, dats m ys = true → (toDs ys).countP (fun z => PyData.eqv z (toD x)) = cntI x ys
  | [], _ => rfl
  | y :: ys, h => by
    simp only [dats, Bool.and_eq_true] at h
    unfold cntI
    simp only [toDs, List.countP_cons, eqv_toD m n y x h.1 hx]
    rw [cnt_toD hx h.2]
    rfl
theorem rm_op (hK : X.K = g.K) (hu : X.A.units + 65 < cLine) (m : MB) : MtR X (mbI m) (rM g m) := by
  intro pins s σ H x xs v us Q I rx rxs h
  obtain ⟨w, p, ps, r, l, ls, e, res⟩ := h
  unfold methV at e
  split at e
  · split at e
    · rename_i ys y hd
      simp only [Bool.and_eq_true] at hd
      split at e
      · rename_i j hj
        cases e
        obtain ⟨z, hz, hzj, hno⟩ := findI_spec hj
        obtain ⟨u, rfl, lu⟩ := ls.one
        obtain ⟨d1, d2⟩ := l.dp (p := .lst ys) (by simpa only [dat] using hd.2)
        obtain ⟨d3, d4⟩ := lu.dp hd.1
        obtain ⟨a, vs, rfl, e1, r1⟩ := l.lst
        have dm := dats_mem hd.2
        simp only [toD] at d1 d2
        refine mt_indexD hu pins s σ H _ _ v us Q I rx rxs ⟨a, u, toD y, toDs ys, j, toD z, rfl, rfl, hK ▸ d1, hK ▸ d3, d2, d4, toDs_get hz, ?_, fun m z' hm hz' => ?_, res.va _ _ rfl (.int _)⟩
        · rw [eqv_toD 59 60 z y (dm z (List.mem_of_getElem? hz)) hd.1]; exact hzj
        · rw [toDs_map, List.getElem?_map] at hz'
          cases q : ys[m]? with
          | none => rw [q] at hz'; cases hz'
          | some z0 =>
            rw [q] at hz'
            cases hz'
            rw [eqv_toD 59 60 z0 y (dm z0 (List.mem_of_getElem? q)) hd.1]
            exact hno m z0 hm q
      · cases e
    · cases e
  · split at e
    · rename_i ys y hd
      simp only [Bool.and_eq_true] at hd
      cases e
      obtain ⟨u, rfl, lu⟩ := ls.one
      obtain ⟨d1, d2⟩ := l.dp (p := .lst ys) (by simpa only [dat] using hd.2)
      obtain ⟨d3, d4⟩ := lu.dp hd.1
      obtain ⟨a, vs, rfl, e1, r1⟩ := l.lst
      simp only [toD] at d1 d2
      refine mt_countD hu pins s σ H _ _ v us Q I rx rxs ⟨a, u, toD y, toDs ys, rfl, rfl, hK ▸ d1, hK ▸ d3, d2, d4, ?_⟩
      rw [cnt_toD hd.1 hd.2]
      exact res.va _ _ rfl (.int _)
    · cases e
  · rename_i a ys
    split at e
    · rename_i ss es
      split at e
      · rename_i hz
        cases e
        obtain ⟨u, rfl, lu⟩ := ls.one
        obtain ⟨ex, ok⟩ := l.str
        subst ex
        obtain ⟨b, vs, rfl, e1, r1⟩ := lu.lst
        obtain ⟨hvs, hok⟩ := strs_of es r1
        subst hvs
        have hz' : (ss.map (·.length)).sum + ss.length * a.length ≤ 16777216 := hz
        refine mt_join pins s σ H _ _ v us Q I rx rxs ⟨a, b, ss, rfl, rfl, .inl (SqL.of e1), hz', ?_⟩
        have ej : Txt.join a ss = PySem.Str.join a ss := StrLaws.glued_eq_join _ _
        rw [ej]
        exact res.va _ _ rfl (.str _ (okS_join ok hok hz))
      · cases e
    · cases e
  · rename_i k
    split at e
    · rename_i o eo
      cases e
      obtain ⟨u, rfl, lu⟩ := ls.one
      obtain ⟨a, o', rfl, dg, hr⟩ := dget_ok eo l lu
      cases rx
      obtain ⟨u', rfl, ru⟩ := L2.Vals.one rxs
      refine d_get1 (by omega) I dg ru fun w' s' I' rw' => ⟨_, H, I', rw', ?_⟩
      rcases hr with ⟨h1, h2⟩ | ⟨p, v1, h1, h2, h3⟩
      · subst h1 h2
        exact res.va _ _ rfl .non
      · subst h1 h2
        exact res.va _ _ rfl h3
    · cases e
  · rename_i k z
    split at e
    · rename_i o eo
      split at e
      · rename_i hfl
        cases e
        obtain ⟨u, y, rfl, lu, ly⟩ := ls.two
        obtain ⟨a, o', rfl, dg, hr⟩ := dget_ok eo l lu
        cases rx
        cases rxs with
        | cons ru rxs =>
          obtain ⟨u', rfl, ry⟩ := L2.Vals.one rxs
          refine d_get2 (by omega) I dg ru ry fun w' s' I' rw' => ⟨_, H, I', rw', ?_⟩
          rcases hr with ⟨h1, h2⟩ | ⟨p, v1, h1, h2, h3⟩
          · subst h1 h2
            rcases ly with k | ⟨b, c, rfl, rfl, kk⟩
            · exact res.va _ _ rfl k
            · cases c <;> cases hfl
          · subst h1 h2
            exact res.va _ _ rfl h3
      · cases e
    · cases e
  · cases e
end
end D

/-! D7: the terms, one rule each. -/
namespace D
open PySem PySem.Spec PyProof.Rows L2

section
variable {X : Cx} {g : Gx} {pf pa pb pc : Bool} {Wx : WX} {fa fb fc : F} {a b c e : Expr} {pos : Pos}

theorem s_const {v : PV} {x : V} {e : Expr} (h : PE X e (tC x)) (hv : ∀ w H, Rp g w H x v) : PE X e (tE g pf Wx true (evC v)) :=
  h.imp fun σ H Q ⟨w0, H0, w, env, W, rel, o⟩ => o x H w (Ext.refl w H) (fun _ => Same.refl H) rel (hv w H)
theorem s_var {i : Nat} {e : Expr} (h : PE X e (tVar i)) : PE X e (tE g pf Wx true (evVar i)) :=
  h.imp fun σ H Q ⟨w0, H0, w, env, W, rel, o⟩ => by
    unfold evVar at o
    split at o
    · rename_i v ev
      obtain ⟨x, e1, r⟩ := rel.sl i _ ev
      exact ⟨x, e1, o x H w (Ext.refl w H) (fun _ => Same.refl H) rel r⟩
    · rename_i c ev
      obtain ⟨a, e1, _, _, k⟩ := rel.sl i _ ev
      exact ⟨.ref a, e1, o _ H w (Ext.refl w H) (fun _ => Same.refl H) rel ⟨a, rfl, k⟩⟩
    · exact o.elim
theorem and1 {a b : Bool} (h : (a && b) = true) : a = true := (Bool.and_eq_true_iff.mp h).1
theorem and2 {a b : Bool} (h : (a && b) = true) : b = true := (Bool.and_eq_true_iff.mp h).2
theorem two_imp {f : R → R → Option R} {r : R2}
    (hr : ∀ (w : Wd) (H : Hp) (v u : V) (x y q : R) (Q : VK), Lk g w H v x.look → Lk g w H u y.look → f x y = some q → Res g w H q Q → r v u H Q) :
    ∀ σ H Q, tE g pf Wx (pa && pb) (ev2 fa fb pb f) σ H Q → tOp r (tE g pf Wx pa fa) (tE g pf Wx pb fb) σ H Q := fun σ H Q ⟨w0, H0, w, env, W, rel, o⟩ => by
  refine ⟨w0, H0, w, env, W, rel, oE.bind o and1 fun x W1 v H1 w1 _ rel1 ext1 s1 rr1 _ o1 => ?_⟩
  refine ⟨w0, H0, w1, env, W1, rel1, oE.bind o1 and2 fun y W2 u H2 w2 _ rel2 ext2 s2 rr2 _ o2 => ?_⟩
  split at o2
  · exact o2.elim
  · rename_i hb
    cases q : f x y with
    | none => rw [q] at o2; exact o2.elim
    | some z =>
      rw [q] at o2
      refine hr w2 H2 v u x y z Q (rr1.next ext2 fun hx => s2 ?_).lk rr2.lk q (rel2.res o2)
      rw [hx] at hb
      cases pb with
      | true => rfl
      | false => exact absurd rfl hb
/-- a test of it -/
theorem tB_mono {t t' : TE} (h : ∀ σ H Q, t' σ H Q → t σ H Q) : ∀ σ H Q, tB t' σ H Q → tB t σ H Q := fun σ H Q z => h σ H _ z

theorem s_op (hK : X.K = g.K) {o : BO} (ha : PE X a (tE g pf Wx pa fa)) (hb : PE X b (tE g pf Wx pb fb)) :
    PE X (.BinOp a (boO o) b pos) (tE g pf Wx (pa && pb) (ev2 fa fb pb fun x y => binOp o x.look y.look)) :=
  (pe_op (rb_op hK o) ha hb).imp (two_imp fun w H v u x y q Q lx ly e res => ⟨w, _, _, q, lx, ly, e, res⟩)
theorem cmp_imp {o : CO} : ∀ σ H Q, tE g pf Wx (pa && pb) (ev2 fa fb pb (fCmp o)) σ H Q → tOp (rC g o) (tE g pf Wx pa fa) (tE g pf Wx pb fb) σ H Q :=
  two_imp fun w H v u x y q Q lx ly e res => by
    unfold fCmp at e
    cases q' : cmpOp o x.look y.look with
    | none => rw [q'] at e; cases e
    | some r =>
      rw [q'] at e
      cases e
      exact ⟨w, _, _, r, lx, ly, q', res.va _ _ rfl (.bl r)⟩
theorem s_cmp (hK : X.K = g.K) (hu : X.A.units + 65 < cLine) {o : CO} (hm : behindInMarks (coO o) b = false) (ha : PE X a (tE g pf Wx pa fa)) (hb : PE X b (tE g pf Wx pb fb)) :
    PE X (.Compare a [coO o] [b] pos) (tE g pf Wx (pa && pb) (ev2 fa fb pb (fCmp o))) ∧ PT X (.Compare a [coO o] [b] pos) (tB (tE g pf Wx (pa && pb) (ev2 fa fb pb (fCmp o)))) :=
  ⟨(pe_cmpR (rc_op hK hu o) ha hb hm).imp cmp_imp, (pt_cmpR (rc_op hK hu o) ha hb hm).imp (tB_mono cmp_imp)⟩
theorem ch_imp {o o' : CO} : ∀ σ H Q, tE g pf Wx (pa && (pb && pc)) (evCh fa fb fc o o') σ H Q → tChain (rC g o) (rC g o') (tE g pf Wx pa fa) (tE g pf Wx pb fb) (tE g pf Wx pc fc) σ H Q := fun σ H Q ⟨w0, H0, w, env, W, rel, h⟩ => by
  refine ⟨w0, H0, w, env, W, rel, oE.bind h and1 fun x W1 v H1 w1 _ rel1 ext1 s1 rr1 _ o1 => ?_⟩
  refine ⟨w0, H0, w1, env, W1, rel1, oE.bind o1 (fun z => and1 (and2 z)) fun y W2 u H2 w2 _ rel2 ext2 s2 rr2 _ o2 => ?_⟩
  split at o2
  · exact o2.elim
  · rename_i hb
    have hx : x.isB = false := by
      cases h : x.isB with
      | false => rfl
      | true => exact absurd (by rw [h]; rfl) hb
    have hy : y.isB = false := by
      cases h : y.isB with
      | false => rfl
      | true => exact absurd (by rw [h]; simp) hb
    have no : ∀ {r : R}, r.isB = false → r.isB = true → Same H1 H2 := fun h1 h2 => by rw [h1] at h2; cases h2
    cases q : cmpOp o x.look y.look with
    | none => rw [q] at o2; exact o2.elim
    | some bb =>
      rw [q] at o2
      refine ⟨w2, _, _, bb, (rr1.next ext2 (no hx)).lk, rr2.lk, q, bb, rfl, ?_⟩
      cases bb with
      | true =>
        refine iteT ?_
        refine ⟨w0, H0, w2, env, W2, rel2, oE.bind o2 (fun z => and2 (and2 z)) fun z W3 t H3 w3 _ rel3 ext3 s3 rr3 _ o3 => ?_⟩
        cases q3 : cmpOp o' y.look z.look with
        | none => rw [q3] at o3; exact o3.elim
        | some r =>
          rw [q3] at o3
          exact ⟨w3, _, _, r, (rr2.next ext3 fun h => by rw [hy] at h; cases h).lk, rr3.lk, q3, (rel3.res o3).va _ _ rfl (.bl r)⟩
      | false => exact iteF ((rel2.res o2).va _ _ rfl (.bl false))
theorem s_chain (hK : X.K = g.K) (hu : X.A.units + 65 < cLine) {o o' : CO} (hm : lastMarks [coO o, coO o'] [b, c] = false) (ha : PE X a (tE g pf Wx pa fa)) (hb : PE X b (tE g pf Wx pb fb)) (hc : PE X c (tE g pf Wx pc fc)) :
    PE X (.Compare a [coO o, coO o'] [b, c] pos) (tE g pf Wx (pa && (pb && pc)) (evCh fa fb fc o o')) ∧ PT X (.Compare a [coO o, coO o'] [b, c] pos) (tB (tE g pf Wx (pa && (pb && pc)) (evCh fa fb fc o o'))) :=
  ⟨(pe_chain (rc_op hK hu o) (rc_op hK hu o') ha hb hc hm).imp ch_imp, (pt_chain (rc_op hK hu o) (rc_op hK hu o') ha hb hc hm).imp (tB_mono ch_imp)⟩
theorem one_imp {f : R → Option R} {r : V → Hp → VK → Prop} (hr : ∀ (w : Wd) (H H1 : Hp) (v : V) (x q : R) (Q : VK), RR g w H H1 v x → f x = some q → Res g w H1 q Q → r v H1 Q) :
    ∀ σ H Q, tE g pf Wx pa (ev1 fa f) σ H Q → tUn r (tE g pf Wx pa fa) σ H Q := fun σ H Q ⟨w0, H0, w, env, W, rel, o⟩ => by
  refine ⟨w0, H0, w, env, W, rel, oE.bind o id fun x W1 v H1 w1 _ rel1 ext1 s1 rr1 _ o1 => ?_⟩
  cases q : f x with
  | none => rw [q] at o1; exact o1.elim
  | some z =>
    rw [q] at o1
    exact hr w1 H H1 v x z Q rr1 q (rel1.res o1)
theorem rr_non {w : Wd} {H H1 : Hp} {v : V} {x : R} (h : RR g w H H1 v x) : decide (v = .non) = isNon x := by
  cases x with
  | val p =>
    cases h <;> simp [isNon]
  | bor c => obtain ⟨a, rfl, _⟩ := h; simp [isNon]
  | fre c => obtain ⟨a, rfl, _⟩ := h; simp [isNon]
theorem s_isN {j : Nat} {p2 : Pos} (ha : PE X a (tE g pf Wx pa fa)) :
    PE X (.Compare a [.Is] [.Constant .none j p2] pos) (tE g pf Wx pa (ev1 fa fun x => some (.val (.bl (isNon x))))) ∧ PT X (.Compare a [.Is] [.Constant .none j p2] pos) (tB (tE g pf Wx pa (ev1 fa fun x => some (.val (.bl (isNon x)))))) := by
  have h : ∀ σ H Q, tE g pf Wx pa (ev1 fa fun x => some (.val (.bl (isNon x)))) σ H Q → tIsN (tE g pf Wx pa fa) σ H Q := one_imp (r := fun x H Q => Q (.bl (decide (x = .non))) H) fun w H H1 v x q Q rr e res => by
    cases e
    show Q (.bl (decide (v = .non))) H1
    rw [rr_non rr]
    exact res.va _ _ rfl (.bl _)
  exact ⟨(pe_cmp (pc_isN ha)).imp h, (pt_cmp (pc_isN ha)).imp (tB_mono h)⟩
theorem s_notN {j : Nat} {p2 : Pos} (ha : PE X a (tE g pf Wx pa fa)) :
    PE X (.Compare a [.IsNot] [.Constant .none j p2] pos) (tE g pf Wx pa (ev1 fa fun x => some (.val (.bl (!isNon x))))) ∧ PT X (.Compare a [.IsNot] [.Constant .none j p2] pos) (tB (tE g pf Wx pa (ev1 fa fun x => some (.val (.bl (!isNon x)))))) := by
  have h : ∀ σ H Q, tE g pf Wx pa (ev1 fa fun x => some (.val (.bl (!isNon x)))) σ H Q → tNotN (tE g pf Wx pa fa) σ H Q := one_imp (r := fun x H Q => Q (.bl (!decide (x = .non))) H) fun w H H1 v x q Q rr e res => by
    cases e
    show Q (.bl (!decide (v = .non))) H1
    rw [rr_non rr]
    exact res.va _ _ rfl (.bl _)
  exact ⟨(pe_cmp (pc_notN ha)).imp h, (pt_cmp (pc_notN ha)).imp (tB_mono h)⟩
end
end D

/-! D8: arguments, calls, displays, subscripts, and, or, if. -/
namespace D
open PySem PySem.Spec PyProof.Rows L2

section
variable {X : Cx} {g : Gx} {pf pa pb pc p p' : Bool} {Wx : WX} {fa fb fc f : F} {a b c e : Expr} {pos : Pos}
theorem tE_pmono (h : p' = true → p = true) : ∀ σ H Q, tE g pf Wx p' f σ H Q → tE g pf Wx p f σ H Q := fun σ H Q ⟨w0, H0, w, env, W, rel, o⟩ => ⟨w0, H0, w, env, W, rel, o.pmono h⟩
theorem one_imp' {f : R → Option R} {r : V → Hp → VK → Prop} {t : TE} (ht : ∀ σ H Q, tUn r (tE g pf Wx pa fa) σ H Q → t σ H Q) (hr : ∀ (w : Wd) (H H1 : Hp) (v : V) (x q : R) (Q : VK), RR g w H H1 v x → f x = some q → Res g w H1 q Q → r v H1 Q) :
    ∀ σ H Q, tE g pf Wx pa (ev1 fa f) σ H Q → t σ H Q := fun σ H Q z => ht σ H Q (one_imp hr σ H Q z)
theorem rr_bl {w : Wd} {H H1 : Hp} {v : V} {b : Bool} (h : RR g w H H1 v (.val (.bl b))) : v = .bl b := Rp.bl' h

theorem s_isB {j : Nat} {p2 : Pos} {b : Bool} (ha : PE X a (tE g pf Wx pa fa)) (ho : OpR X (compareOp .Is) (fun x y H Q => ∃ a b : Bool, x = .bl a ∧ y = .bl b ∧ Q (.bl (decide (a = b))) H)) :
    PE X (.Compare a [.Is] [.Constant (.bool b) j p2] pos) (tE g pf Wx pa (ev1 fa (fIsB b))) ∧ PT X (.Compare a [.Is] [.Constant (.bool b) j p2] pos) (tB (tE g pf Wx pa (ev1 fa (fIsB b)))) := by
  have h : ∀ σ H Q, tE g pf Wx pa (ev1 fa (fIsB b)) σ H Q → tOp (fun x y H Q => ∃ a b : Bool, x = .bl a ∧ y = .bl b ∧ Q (.bl (decide (a = b))) H) (tE g pf Wx pa fa) (tC (.bl b)) σ H Q :=
    one_imp (r := fun x H Q => ∃ a b' : Bool, x = .bl a ∧ (V.bl b) = .bl b' ∧ Q (.bl (decide (a = b'))) H) fun w H H1 v x q Q rr e res => by
      unfold fIsB at e
      split at e
      · rename_i c
        cases e
        refine ⟨c, b, rr_bl rr, rfl, ?_⟩
        have := res.va _ _ rfl (.bl _)
        rwa [show (c == b) = decide (c = b) from by cases c <;> cases b <;> rfl] at this
      · cases e
  exact ⟨(pe_cmpR ho ha pe_bl (nomark _)).imp h, (pt_cmpR ho ha pe_bl (nomark _)).imp (tB_mono h)⟩
theorem s_notB {j : Nat} {p2 : Pos} {b : Bool} (ha : PE X a (tE g pf Wx pa fa)) (ho : OpR X (compareOp .IsNot) (fun x y H Q => ∃ a b : Bool, x = .bl a ∧ y = .bl b ∧ Q (.bl (!decide (a = b))) H)) :
    PE X (.Compare a [.IsNot] [.Constant (.bool b) j p2] pos) (tE g pf Wx pa (ev1 fa (fNotB b))) ∧ PT X (.Compare a [.IsNot] [.Constant (.bool b) j p2] pos) (tB (tE g pf Wx pa (ev1 fa (fNotB b)))) := by
  have h : ∀ σ H Q, tE g pf Wx pa (ev1 fa (fNotB b)) σ H Q → tOp (fun x y H Q => ∃ a b : Bool, x = .bl a ∧ y = .bl b ∧ Q (.bl (!decide (a = b))) H) (tE g pf Wx pa fa) (tC (.bl b)) σ H Q :=
    one_imp (r := fun x H Q => ∃ a b' : Bool, x = .bl a ∧ (V.bl b) = .bl b' ∧ Q (.bl (!decide (a = b'))) H) fun w H H1 v x q Q rr e res => by
      unfold fNotB at e
      split at e
      · rename_i c
        cases e
        refine ⟨c, b, rr_bl rr, rfl, ?_⟩
        have := res.va _ _ rfl (.bl _)
        rwa [show (c == b) = decide (c = b) from by cases c <;> cases b <;> rfl] at this
      · cases e
  exact ⟨(pe_cmpR ho ha pe_bl (nomark _)).imp h, (pt_cmpR ho ha pe_bl (nomark _)).imp (tB_mono h)⟩
theorem s_not (ha : PE X a (tE g pf Wx pa fa)) (ha' : PT X a (tB (tE g pf Wx pa fa))) :
    PE X (.UnaryOp .Not a pos) (tE g pf Wx pa (ev1 fa fNot)) ∧ PT X (.UnaryOp .Not a pos) (tB (tE g pf Wx pa (ev1 fa fNot))) := by
  have h : ∀ σ H Q, tE g pf Wx pa (ev1 fa fNot) σ H Q → tNotV (tE g pf Wx pa fa) σ H Q := one_imp (r := fun x H Q => ∃ c, x = .bl c ∧ Q (.bl (!c)) H) fun w H H1 v x q Q rr e res => by
    unfold fNot at e
    split at e
    · cases e
      exact ⟨_, rr_bl rr, res.va _ _ rfl (.bl _)⟩
    · cases e
  have h' : ∀ σ H Q, tB (tE g pf Wx pa (ev1 fa fNot)) σ H Q → tNot (tB (tE g pf Wx pa fa)) σ H Q := fun σ H Q z => by
    obtain ⟨w0, H0, w, env, W, rel, o⟩ := h σ H _ z
    refine ⟨w0, H0, w, env, W, rel, ?_⟩
    cases q : fa env W with
    | bad => rw [q] at o; exact o
    | exc c W1 => rw [q] at o; exact o
    | ok r W1 =>
      rw [q] at o
      intro v H1 w1 e1 s1 r1 rr
      obtain ⟨c, e, d, e2, q2⟩ := o v H1 w1 e1 s1 r1 rr
      cases e2
      exact ⟨c, e, q2⟩
  exact ⟨(pe_not ha).imp h, (pt_not ha').imp h'⟩
theorem s_neg (ha : PE X a (tE g pf Wx pa fa)) : PE X (.UnaryOp .USub a pos) (tE g pf Wx pa (ev1 fa fNeg)) :=
  (pe_un un_neg ha).imp (one_imp fun w H H1 v x q Q rr e res => by
    unfold fNeg at e
    split at e
    · cases e
      exact ⟨_, Lk.int (.inl rr), res.va _ _ rfl (.int _)⟩
    · cases e)
theorem s_if (hc : PT X c (tB (tE g pf Wx pc fc))) (ha : PE X a (tE g pf Wx pa fa)) (hb : PE X b (tE g pf Wx pb fb)) : PE X (.IfExp c a b pos) (tE g pf Wx (pc && (pa && pb)) (evIf fc fa fb)) :=
  (pe_ifExp hc ha hb).imp fun σ H Q ⟨w0, H0, w, env, W, rel, o⟩ => by
    refine ⟨w0, H0, w, env, W, rel, oE.bind o and1 fun x W1 v H1 w1 _ rel1 ext1 s1 rr1 _ o1 => ?_⟩
    split at o1
    · exact ⟨true, rr_bl rr1, iteT ⟨w0, H0, w1, env, W1, rel1, o1.pmono fun z => and1 (and2 z)⟩⟩
    · exact ⟨false, rr_bl rr1, iteF ⟨w0, H0, w1, env, W1, rel1, o1.pmono fun z => and2 (and2 z)⟩⟩
    · exact o1.elim

/-! ### and, or -/
theorem and_imp {fs : List F} {g1 : F} : ∀ σ H Q, tE g pf Wx (pa && pb) (evAnd (fa :: g1 :: fs)) σ H Q → tAndV (tE g pf Wx pa fa) (tE g pf Wx pb (evAnd (g1 :: fs))) σ H Q := fun σ H Q ⟨w0, H0, w, env, W, rel, o⟩ => by
  simp only [evAnd] at o
  refine ⟨w0, H0, w, env, W, rel, oE.bind o and1 fun x W1 v H1 w1 _ rel1 ext1 s1 rr1 _ o1 => ?_⟩
  split at o1
  · exact ⟨true, rr_bl rr1, iteT ⟨w0, H0, w1, env, W1, rel1, o1.pmono and2⟩⟩
  · exact ⟨false, rr_bl rr1, iteF ((rel1.res o1).va _ _ rfl (.bl false))⟩
  · exact o1.elim
theorem or_imp {fs : List F} {g1 : F} : ∀ σ H Q, tE g pf Wx (pa && pb) (evOr (fa :: g1 :: fs)) σ H Q → tOrV (tE g pf Wx pa fa) (tE g pf Wx pb (evOr (g1 :: fs))) σ H Q := fun σ H Q ⟨w0, H0, w, env, W, rel, o⟩ => by
  simp only [evOr] at o
  refine ⟨w0, H0, w, env, W, rel, oE.bind o and1 fun x W1 v H1 w1 _ rel1 ext1 s1 rr1 _ o1 => ?_⟩
  split at o1
  · exact ⟨false, rr_bl rr1, iteF ⟨w0, H0, w1, env, W1, rel1, o1.pmono and2⟩⟩
  · exact ⟨true, rr_bl rr1, iteT ((rel1.res o1).va _ _ rfl (.bl true))⟩
  · exact o1.elim
theorem tand_imp {fs : List F} {g1 : F} : ∀ σ H Q, tB (tE g pf Wx (pa && pb) (evAnd (fa :: g1 :: fs))) σ H Q → tAnd (tB (tE g pf Wx pa fa)) (tB (tE g pf Wx pb (evAnd (g1 :: fs)))) σ H Q := fun σ H Q z => by
  obtain ⟨w0, H0, w, env, W, rel, o⟩ := and_imp σ H _ z
  refine ⟨w0, H0, w, env, W, rel, ?_⟩
  cases q : fa env W with
  | bad => rw [q] at o; exact o
  | exc c W1 => rw [q] at o; exact o
  | ok r W1 =>
    rw [q] at o
    intro v H1 w1 e1 s1 r1 rr
    obtain ⟨c, e, q2⟩ := o v H1 w1 e1 s1 r1 rr
    refine ⟨c, e, ?_⟩
    cases c with
    | true => exact q2
    | false =>
      obtain ⟨d, e2, q3⟩ := q2
      cases e2
      exact q3
theorem tor_imp {fs : List F} {g1 : F} : ∀ σ H Q, tB (tE g pf Wx (pa && pb) (evOr (fa :: g1 :: fs))) σ H Q → tOr (tB (tE g pf Wx pa fa)) (tB (tE g pf Wx pb (evOr (g1 :: fs)))) σ H Q := fun σ H Q z => by
  obtain ⟨w0, H0, w, env, W, rel, o⟩ := or_imp σ H _ z
  refine ⟨w0, H0, w, env, W, rel, ?_⟩
  cases q : fa env W with
  | bad => rw [q] at o; exact o
  | exc c W1 => rw [q] at o; exact o
  | ok r W1 =>
    rw [q] at o
    intro v H1 w1 e1 s1 r1 rr
    obtain ⟨c, e, q2⟩ := o v H1 w1 e1 s1 r1 rr
    refine ⟨c, e, ?_⟩
    cases c with
    | false => exact q2
    | true =>
      obtain ⟨d, e2, q3⟩ := q2
      cases e2
      exact q3
/-- several terms -/
inductive PEs (X : Cx) (g : Gx) (pf : Bool) (Wx : WX) : List Expr → List F → Bool → Prop
  | nil : PEs X g pf Wx [] [] true
  | cons {e : Expr} {es : List Expr} {f : F} {fs : List F} {p q : Bool} (h : PE X e (tE g pf Wx p f)) (h' : PT X e (tB (tE g pf Wx p f)))
      (hs : starEach (e :: es) X.env = (false, eval e X.env) :: starEach es X.env) (t : PEs X g pf Wx es fs q) : PEs X g pf Wx (e :: es) (f :: fs) (p && q)
theorem s_and : ∀ {es : List Expr} {fs : List F} {q : Bool}, PEs X g pf Wx es fs q → es ≠ [] → PE X (.BoolOp .And es pos) (tE g pf Wx q (evAnd fs)) ∧ PW X (.BoolOp .And es pos) (tB (tE g pf Wx q (evAnd fs)))
  | _, _, _, .nil, h => absurd rfl h
  | _, _, _, .cons h h' _ .nil, _ => ⟨(pe_one h).imp (tE_pmono and1), by
    have k := pw_and1 (pos := pos) h'
    exact ⟨fun wh pins s σ H Q I z => k.run wh pins s σ H Q I (tB_mono (tE_pmono and1) σ H Q z)⟩⟩
  | _, _, _, .cons h h' _ (.cons h2 h2' hs2 t), _ => by
    obtain ⟨k1, k2⟩ := s_and (.cons h2 h2' hs2 t) (by simp)
    refine ⟨(pe_and h k1).imp and_imp, ?_⟩
    have k := pw_and h' k2
    exact ⟨fun wh pins s σ H Q I z => k.run wh pins s σ H Q I (tand_imp σ H Q z)⟩
theorem s_or : ∀ {es : List Expr} {fs : List F} {q : Bool}, PEs X g pf Wx es fs q → es ≠ [] → PE X (.BoolOp .Or es pos) (tE g pf Wx q (evOr fs)) ∧ PW X (.BoolOp .Or es pos) (tB (tE g pf Wx q (evOr fs)))
  | _, _, _, .nil, h => absurd rfl h
  | _, _, _, .cons h h' _ .nil, _ => ⟨(pe_one h).imp (tE_pmono and1), by
    have k := pw_or1 (pos := pos) h'
    exact ⟨fun wh pins s σ H Q I z => k.run wh pins s σ H Q I (tB_mono (tE_pmono and1) σ H Q z)⟩⟩
  | _, _, _, .cons h h' _ (.cons h2 h2' hs2 t), _ => by
    obtain ⟨k1, k2⟩ := s_or (.cons h2 h2' hs2 t) (by simp)
    refine ⟨(pe_or h k1).imp or_imp, ?_⟩
    have k := pw_or h' k2
    exact ⟨fun wh pins s σ H Q I z => k.run wh pins s σ H Q I (tor_imp σ H Q z)⟩

/-! ### arguments -/
inductive RRs (g : Gx) (w' : Wd) (H' : Hp) : Hp → List V → List R → Prop
  | nil {H : Hp} : RRs g w' H' H [] []
  | cons {H H1 : Hp} {v : V} {vs : List V} {r : R} {rs : List R} (h : RR g w' H H' v r) (m : ∀ a, H1 a = none → H a = none) (fr : ∀ a c, r = .fre c → v = .ref a → ∃ o, H1 a = some o) (t : RRs g w' H' H1 vs rs) : RRs g w' H' H (v :: vs) (r :: rs)
theorem RRs.lks {w' : Wd} {H' : Hp} : ∀ {H : Hp} {vs : List V} {rs : List R}, RRs g w' H' H vs rs → Lks g w' H' vs (rs.map R.look)
  | _, _, _, .nil => .nil
  | _, _, _, .cons h _ _ t => .cons h.lk (RRs.lks t)
def oA (g : Gx) (pf : Bool) (Wx : WX) (w0 : Wd) (H0 : Hp) (env : Ev) (σ : L2.St) (w : Wd) (H : Hp) (p : Bool) (Q : List V → Hp → Prop) : Out (List R) → Prop
  | .ok rs W' => ∀ vs H' w', Ext w H w' H' → (p = true → Same H H') → Rel g pf w0 H0 w' env W' σ H' → ((noB rs || p) = true → RRs g w' H' H vs rs) → vs.length = rs.length → Q vs H'
  | .exc c W' => c < g.nx → ∀ H' w', Ext w H w' H' → Rel g pf w0 H0 w' env W' σ H' → Wx (.ref (g.ca c)) none σ H'
  | .bad => False
def tAr (g : Gx) (pf : Bool) (Wx : WX) (p : Bool) (fs : List F) : TA := fun σ H Q =>
  ∃ w0 H0 w env W, Rel g pf w0 H0 w env W σ H ∧ oA g pf Wx w0 H0 env σ w H p Q (evs fs env W)
theorem PEs.args : ∀ {es : List Expr} {fs : List F} {q : Bool}, PEs X g pf Wx es fs q → PA X es (tAr g pf Wx q fs)
  | _, _, _, .nil => pa_nil.imp fun σ H Q ⟨w0, H0, w, env, W, rel, o⟩ => o [] H w (Ext.refl w H) (fun _ => Same.refl H) rel (fun _ => .nil) rfl
  | _, _, _, .cons h h' hs t => (pa_cons h (PEs.args t) hs).imp fun σ H Q ⟨w0, H0, w, env, W, rel, o⟩ => by
    rename_i e es f fs p q _
    refine ⟨w0, H0, w, env, W, rel, ?_⟩
    simp only [evs] at o
    cases q1 : f env W with
    | bad => rw [q1] at o; exact o
    | exc c W1 => rw [q1] at o; exact o
    | ok r W1 =>
      rw [q1] at o
      intro v H1 w1 ext1 s1 rel1 rr1
      refine ⟨w0, H0, w1, env, W1, rel1, ?_⟩
      simp only [Out.bind_ok] at o
      cases q2 : evs fs env W1 with
      | bad => rw [q2] at o; exact o
      | exc c W2 => rw [q2] at o; exact fun hc H2 w2 ext2 rel2 => o hc H2 w2 (ext1.trans ext2) rel2
      | ok rs W2 =>
        rw [q2] at o
        intro vs H2 w2 ext2 s2 rel2 rrs hl
        refine o (v :: vs) H2 w2 (ext1.trans ext2) (fun z => (s1 (and1 z)).trans (s2 (and2 z))) rel2 (fun z => ?_) (by simp [hl])
        have z2 : (noB rs || q) = true := by
          rcases Bool.or_eq_true_iff.mp z with k | k
          · unfold noB at k ⊢
            rw [List.all_cons] at k
            rw [and2 k]
            rfl
          · rw [and2 k, Bool.or_true]
        refine .cons (rr1.next ext2 fun hb => s2 ?_) (ext1.tr rel1.wk) (fun a c e1 e2 => ?_) (rrs z2)
        · rcases Bool.or_eq_true_iff.mp z with k | k
          · unfold noB at k
            rw [List.all_cons, hb] at k
            exact absurd k (by simp)
          · exact and2 k
        · subst e1 e2
          obtain ⟨a', e, _, _, k⟩ := rr1
          cases e
          exact k.ex
theorem PEs.plain : ∀ {es : List Expr} {fs : List F} {q : Bool}, PEs X g pf Wx es fs q → (backTo pos (starEach es X.env)).any (·.1) = false
  | _, _, _, .nil => rfl
  | _, _, _, .cons _ _ hs t => by
    rw [hs]
    show (false || (backTo pos (starEach _ X.env)).any (·.1)) = false
    rw [Bool.false_or]
    exact PEs.plain t
/-! ### made plain -/
section
variable {w0 w w' : Wd} {H0 H H' Hs : Hp} {env : Ev} {W : Om} {σ : L2.St}
theorem RR.frz {d : Addr} {v : V} {r : R} (h : RR g w' Hs H' v r) (hd : Hs d ≠ none) : RR g (w'.frz d) Hs H' v r := by
  cases r with
  | val p => exact Rp.frz h
  | bor c => obtain ⟨b, e, k⟩ := h; exact ⟨b, e, k.frz⟩
  | fre c =>
    obtain ⟨b, e, hn, ng, k⟩ := h
    refine ⟨b, e, hn, fun z => ?_, k.frz⟩
    rcases z with rfl | z
    · exact hd hn
    · exact ng z
theorem RRs.frz {d : Addr} : ∀ {Hs : Hp} {vs : List V} {rs : List R}, RRs g w' H' Hs vs rs → Hs d ≠ none → RRs g (w'.frz d) H' Hs vs rs
  | _, _, _, .nil, _ => .nil
  | _, _, _, .cons h m fr t, hd => .cons (h.frz hd) m fr (RRs.frz t fun z => hd (m _ z))
theorem RRs.plain {vs : List V} {rs : List R} : ∀ {Hs : Hp} {w' : Wd} {ps : List PV}, RRs g w' H' Hs vs rs → vals? rs = some ps → (∀ a, Hs a = none → H a = none) → (∀ a, H a = none → H0 a = none) →
    (∀ (i : Nat) (c : Ct) (a : Addr), env[i]? = some (.own c) → σ[i]? = some (some (V.ref a)) → H a ≠ none) → Rel g pf w0 H0 w' env W σ H' → Ext w H w' H' →
    ∃ w'', Ext w H w'' H' ∧ Rel g pf w0 H0 w'' env W σ H' ∧ Rps g w'' H' vs ps ∧ ∀ v p, Rp g w' H' v p → Rp g w'' H' v p := by
  induction rs generalizing vs with
  | nil =>
    intro Hs w' ps h e _ _ _ rel ext
    cases h
    simp only [vals?] at e
    cases e
    exact ⟨w', ext, rel, .nil, fun _ _ z => z⟩
  | cons r rs ih =>
    intro Hs w' ps h e m h00 sl rel ext
    cases h with
    | cons h m1 fr t =>
      rename_i H1 v vs
      simp only [vals?] at e
      split at e
      · rename_i p ps' e1 e2
        cases e
        have m2 : ∀ a, H1 a = none → H a = none := fun a z => m a (m1 a z)
        cases r with
        | val q =>
          cases e1
          obtain ⟨w'', x1, x2, x3, x4⟩ := ih t e2 m2 h00 sl rel ext
          exact ⟨w'', x1, x2, .cons (x4 _ _ h) x3, x4⟩
        | bor c => cases e1
        | fre c =>
          cases e1
          obtain ⟨a, rfl, hn, ng, k⟩ := h
          obtain ⟨o1, ho1⟩ := fr a c rfl rfl
          obtain ⟨o, ho⟩ := k.ex
          have hH : H a = none := m a hn
          have rel2 : Rel g pf w0 H0 (w'.frz a) env W σ H' := rel.frz ho ng (h00 a hH) fun i c e q => sl i c a e q hH
          obtain ⟨w'', x1, x2, x3, x4⟩ := ih (t.frz (by rw [ho1]; exact fun z => nomatch z)) e2 m2 h00 sl rel2 (ext.frz hH)
          exact ⟨w'', x1, x2, .cons (x4 _ _ k.pv) x3, fun v p z => x4 v p z.frz⟩
      · cases e
end
end
end D

/-! D9: displays, calls, built-ins, subscripts, slices. -/
namespace D
open PySem PySem.Spec PyProof.Rows L2

section
variable {X : Cx} {g : Gx} {pf pa pb pc p p' : Bool} {Wx : WX} {fa fb fc f : F} {a b c e : Expr} {es : List Expr} {fs : List F} {pos p2 : Pos}
section
variable {w0 w w' : Wd} {H0 H H' Hs : Hp} {env : Ev} {W : Om} {σ : L2.St}
theorem vals_noB : ∀ {rs : List R} {ps : List PV}, vals? rs = some ps → noB rs = true ∧ rs.length = ps.length
  | [], _, e => by simp only [vals?] at e; cases e; exact ⟨rfl, rfl⟩
  | r :: rs, ps, e => by
    simp only [vals?] at e
    split at e
    · rename_i q qs e1 e2
      cases e
      obtain ⟨h1, h2⟩ := vals_noB e2
      refine ⟨?_, by simp [h2]⟩
      unfold noB at h1 ⊢
      rw [List.all_cons, h1]
      cases r <;> first | rfl | (cases e1; done)
    · cases e
theorem evs_length : ∀ {fs : List F} {W W1 : Om} {rs : List R}, evs fs env W = .ok rs W1 → rs.length = fs.length
  | [], W, W1, rs, e => by simp only [evs] at e; cases e; rfl
  | f :: fs, W, W1, rs, e => by
    simp only [evs] at e
    cases q : f env W with
    | bad => rw [q] at e; cases e
    | exc c W2 => rw [q] at e; cases e
    | ok r W2 =>
      rw [q] at e
      simp only [Out.bind_ok] at e
      cases q2 : evs fs env W2 with
      | bad => rw [q2] at e; cases e
      | exc c W3 => rw [q2] at e; cases e
      | ok rs2 W3 =>
        rw [q2] at e
        cases e
        simp [evs_length q2]
theorem plain_args {K : List PV → Om → Out R} {P : Bool} {Q : VK} {Q' : List V → Hp → Prop}
    (o : oE g pf Wx w0 H0 env σ w H P Q ((evs fs env W).bind fun rs W1 => match vals? rs with | some vs => K vs W1 | none => .bad)) (rel : Rel g pf w0 H0 w env W σ H) (hp : P = true → p = true)
    (hk : ∀ vs ps H1 w1 W1, Ext w H w1 H1 → Rel g pf w0 H0 w1 env W1 σ H1 → (p = true → Same H H1) → Rps g w1 H1 vs ps → vs.length = ps.length → vs.length = fs.length → oE g pf Wx w0 H0 env σ w1 H1 P Q (K ps W1) → Q' vs H1) :
    oA g pf Wx w0 H0 env σ w H p Q' (evs fs env W) := by
  cases q : evs fs env W with
  | bad => rw [q] at o; exact o
  | exc c W1 => rw [q] at o; exact o
  | ok rs W1 =>
    rw [q] at o
    simp only [Out.bind_ok] at o
    intro vs H1 w1 ext s rel1 rrs hl
    split at o
    · rename_i ps ep
      have nb := vals_noB ep
      have sl : ∀ (i : Nat) (c : Ct) (a : Addr), env[i]? = some (.own c) → σ[i]? = some (some (V.ref a)) → H a ≠ none := fun i c a e1 e2 e3 => by
        obtain ⟨b, e4, _, _, k⟩ := rel.sl i _ e1
        rw [e2] at e4
        cases e4
        obtain ⟨ob, z⟩ := k.ex
        rw [e3] at z; cases z
      obtain ⟨w'', x1, x2, x3, _⟩ := RRs.plain (rrs (by rw [nb.1]; rfl)) ep (fun _ z => z) rel.tr0 sl rel1 ext
      exact hk vs ps H1 w'' W1 x1 x2 s x3 (by rw [hl, nb.2]) (by rw [hl, evs_length q]) (o.shift x1 (fun z => s (hp z)) (x1.tr x2.wk))
    · exact o.elim
end
theorem s_tup {x1} (h : PEs X g pf Wx es fs p) : PE X (.Tuple es x1 pos) (tE g pf Wx p (evTup fs)) :=
  (pe_tupB h.args).imp fun σ H Q ⟨w0, H0, w, env, W, rel, o⟩ => ⟨w0, H0, w, env, W, rel,
    plain_args (P := p) (K := fun vs W1 => if vs.length ≤ sz then .ok (.val (.tup vs)) W1 else .bad) o rel id fun vs ps H1 w1 W1 ext rel1 s rp hl _ o1 => by
      split at o1
      · rename_i hz
        exact ⟨by rw [hl, ← sz_line]; exact hz, _, fun a o hn hb => (rel1.res o1).tu ps a vs o rfl hn hb rp⟩
      · exact o1.elim⟩
theorem s_lst (h : PEs X g pf Wx es fs p) : PE X (.List es pos) (tE g pf Wx p (evLst fs)) :=
  (pe_lst h.args).imp fun σ H Q ⟨w0, H0, w, env, W, rel, o⟩ => ⟨w0, H0, w, env, W, rel,
    plain_args (P := p) (K := fun vs W1 => if vs.length ≤ sz then .ok (.fre (.l vs)) W1 else .bad) o rel id fun vs ps H1 w1 W1 ext rel1 s rp hl _ o1 => by
      split at o1
      · rename_i hz
        exact ⟨by rw [hl, ← sz_line]; exact hz, fun a hn => (rel1.res o1).fr (.l ps) a _ rfl hn (.l rp)⟩
      · exact o1.elim⟩

/-! ### calls -/
/-- what a def promises -/
def spF (g : Gx) (fn : Fn) (p : Bool) (n : Nat) : Sp := fun vs H Q E => vs.length = n ∧ ∃ w W ps, WOk g w W H ∧ Rps g w H vs ps ∧ match fn ps W with
  | .ok r W' => ∀ v H' w', Ext w H w' H' → WOk g w' W' H' → (p = true → Same H H') → r.isB = false → RR g w' H H' v r → Q v H'
  | .exc c W' => c < g.nx → ∀ H' w', Ext w H w' H' → WOk g w' W' H' → (p = true → Same H H') → E (.ref (g.ca c)) none H'
  | .bad => False
def bNo (o : Out R) : Out R := match o with
  | .ok r W => if r.isB then .bad else .ok r W
  | o => o
theorem s_call {k : Nat} {fd : FuncData} {ps : List Str} {x : Str} {at' : Addr} {fn : Fn} {pu : Bool} {e : Expr} {es : List Expr} {f : F} {fs : List F}
    (F : FnOk X.prog X.w X.K X.mg X.base (L2.CX X.prog X.w) k at' fd ps (spF g fn pu ps.length)) (hr : Room k X.A) (hg : Gl X x) (hm : X.mg x = some (.ref at')) (hk : PySem.W.keepIn X.K (.ref at') = true) (hb : Binds X.K fd ps []) (tk : Takes X Wx)
    (hl : fs.length + 1 = ps.length) (hpu : pf = true → pu = true) (hdb : (x == ("__debug__" : Str)) = false)
    (h : PE X e (tE g pf Wx p f)) (h' : PT X e (tB (tE g pf Wx p f))) (hs : starEach (e :: es) X.env = (false, eval e X.env) :: starEach es X.env) (t : PEs X g pf Wx es fs p') :
    PE X (.Call (.Name x p2) (e :: es) [] pos) (tE g pf Wx (pu && (p && p')) (evCall fn (f :: fs))) :=
  (pe_callS F hr hg hm hk hb (fun σ => passAt tk σ) (PEs.cons h h' hs t).args hdb hs t.plain).imp fun σ H Q ⟨w0, H0, w, env, W, rel, o⟩ => ⟨w0, H0, w, env, W, rel, by
    refine plain_args (K := fun vs W1 => fn vs W1) o rel and2 fun vs qs H1 w1 W1 ext rel1 s rp _ hlen o1 => ?_
    have hvs : vs.length = ps.length := by rw [hlen, ← hl]; rfl
    refine ⟨hvs, w1, W1, qs, rel1.wk, rp, ?_⟩
    cases q : fn qs W1 with
    | bad => rw [q] at o1; exact o1
    | ok r W' =>
      rw [q] at o1
      exact fun v H' w' e' wk' s' nb rr => o1 v H' w' e' (fun z => s' (and1 z)) (rel1.next e' wk' (e'.tr wk') fun z => s' (hpu z)) rr
    | exc c W' =>
      rw [q] at o1
      exact fun hc H' w' e' wk' s' => o1 hc H' w' e' (rel1.next e' wk' (e'.tr wk') fun z => s' (hpu z))⟩

/-! ### built-ins -/
theorem blt_imp {fv : List PV → Option R} {r : List V → Hp → VK → Prop} (hr : ∀ (w : Wd) (H : Hp) (vs : List V) (ps : List PV) (q : R) (Q : VK), Lks g w H vs ps → fv ps = some q → Res g w H q Q → r vs H Q) :
    ∀ σ H Q, tE g pf Wx p (evBlt fv fs p) σ H Q → tCB r (tAr g pf Wx p fs) σ H Q := fun σ H Q ⟨w0, H0, w, env, W, rel, o⟩ => ⟨w0, H0, w, env, W, rel, by
  unfold evBlt at o
  cases q : evs fs env W with
  | bad => rw [q] at o; exact o
  | exc c W1 => rw [q] at o; exact o
  | ok rs W1 =>
    rw [q] at o
    simp only [Out.bind_ok] at o
    intro vs H1 w1 ext s rel1 rrs hl
    split at o
    · rename_i hb
      cases q2 : fv (rs.map R.look) with
      | none => rw [q2] at o; exact o.elim
      | some z =>
        rw [q2] at o
        exact hr w1 H1 vs _ z Q (rrs hb).lks q2 (rel1.res (o.shift ext s (ext.tr rel1.wk)))
    · exact o.elim⟩
theorem s_blt (hK : X.K = g.K) (hu : X.A.units + 65 < cLine) (hc : X.calm = true) {x : BF} (hx : x ≠ .lenset) (hx2 : x ≠ .sortSet) (hg : Gl X (bfN x)) (hm : X.mg (bfN x) = none) {e : Expr} {es : List Expr} {f : F} {fs : List F}
    (h : PE X e (tE g pf Wx p f)) (h' : PT X e (tB (tE g pf Wx p f))) (hs : starEach (e :: es) X.env = (false, eval e X.env) :: starEach es X.env) (t : PEs X g pf Wx es fs p') :
    PE X (.Call (.Name (bfN x) p2) (e :: es) [] pos) (tE g pf Wx (p && p') (evBlt (bltV x) (f :: fs) (p && p'))) := by
  have ha := (PEs.cons h h' hs t).args
  have i := blt_imp (g := g) (pf := pf) (Wx := Wx) (p := p && p') (fs := f :: fs) (fv := bltV x) (r := rF g x) fun w H vs ps q Q lk e res => ⟨w, ps, q, lk, e, res⟩
  have hc' := rf_op (g := g) hK hu hc x hx hx2
  cases x with
  | len => exact (pe_callB hc' hg hm rfl ha (by decide) (by decide) hs t.plain).imp i
  | all => exact (pe_callB hc' hg hm rfl ha (by decide) (by decide) hs t.plain).imp i
  | any => exact (pe_callB hc' hg hm rfl ha (by decide) (by decide) hs t.plain).imp i
  | list => exact (pe_callTy hc' hg hm rfl ha (by decide) (by decide) hs t.plain).imp i
  | tuple => exact (pe_callTy hc' hg hm rfl ha (by decide) (by decide) hs t.plain).imp i
  | max => exact (pe_callB hc' hg hm rfl ha (by decide) (by decide) hs t.plain).imp i
  | sum => exact (pe_callB hc' hg hm rfl ha (by decide) (by decide) hs t.plain).imp i
  | int => exact (pe_callTy hc' hg hm rfl ha (by decide) (by decide) hs t.plain).imp i
  | str => exact (pe_callTy hc' hg hm rfl ha (by decide) (by decide) hs t.plain).imp i
  | sortedI => exact (pe_callB hc' hg hm rfl ha (by decide) (by decide) hs t.plain).imp i
  | lenset => exact absurd rfl hx
  | sortSet => exact absurd rfl hx2
  | sortedD => exact (pe_callB hc' hg hm rfl ha (by decide) (by decide) hs t.plain).imp i
  | dict => exact (pe_callTy hc' hg hm rfl ha (by decide) (by decide) hs t.plain).imp i
def tyS : TY → Str
  | .str => "str" | .int => "int" | .bool => "bool" | .tuple => "tuple" | .list => "list" | .exc _ => ""
theorem s_isi {ty : TY} (hty : ∀ c, ty ≠ .exc c) {p3 : Pos} (hg : Gl X "isinstance") (hm : X.mg "isinstance" = none) (hg2 : Gl X (tyS ty)) (hm2 : X.mg (tyS ty) = none)
    (h : PE X a (tE g pf Wx p f)) (hs : starEach [a, .Name (tyS ty) p3] X.env = (false, eval a X.env) :: starEach [.Name (tyS ty) p3] X.env) :
    PE X (.Call (.Name "isinstance" p2) [a, .Name (tyS ty) p3] [] pos) (tE g pf Wx p (ev1 f fun x => (isiV ty x.look).map fun b => .val (.bl b))) := by
  have hn : PE X (.Name (tyS ty) p3) (tC (.ty (tyN ty))) := by
    cases ty with
    | exc c => exact absurd rfl (hty c)
    | str => exact pe_bltn hg2 hm2 (u := .type "str") rfl rfl (by decide) (by decide)
    | int => exact pe_bltn hg2 hm2 (u := .type "int") rfl rfl (by decide) (by decide)
    | bool => exact pe_bltn hg2 hm2 (u := .type "bool") rfl rfl (by decide) (by decide)
    | tuple => exact pe_bltn hg2 hm2 (u := .type "tuple") rfl rfl (by decide) (by decide)
    | list => exact pe_bltn hg2 hm2 (u := .type "list") rfl rfl (by decide) (by decide)
  have cr : CallR X (.builtin "isinstance") (fun vs H Q => ∃ v w q b, vs = [v, .ty (tyN ty)] ∧ Lk g w H v q ∧ isiV ty q = some b ∧ Q (.bl b) H) := by
    intro pins s σ H vs us Q I rv ⟨v, w, q, b, e, l, e1, hq⟩
    subst e
    exact isi_op I rv l e1 hq
  refine (pe_callB cr hg hm rfl (pa_cons h (pa_cons hn pa_nil) hs) (by decide) (by decide) hs rfl).imp fun σ H Q z => ?_
  exact one_imp (r := fun v H Q => ∃ v' w q b, [v, .ty (tyN ty)] = [v', .ty (tyN ty)] ∧ Lk g w H v' q ∧ isiV ty q = some b ∧ Q (.bl b) H) (fun w H H1 v x q Q rr e res => by
    cases q2 : isiV ty x.look with
    | none => rw [q2] at e; cases e
    | some b =>
      rw [q2] at e
      cases e
      exact ⟨v, w, x.look, b, rfl, rr.lk, q2, res.va _ _ rfl (.bl _)⟩) σ H Q z
/-- in a module's tuple -/
theorem s_inT (hK : X.K = g.K) (hu : X.A.units + 65 < cLine) {ng : Bool} {x : Str} {vs : List PV} {at' : Addr} {us : List V} (hg : Gl X x) (hm : X.mg x = some (.ref at')) (hw : WrT g.K at' us) (hv : ∀ w H, Rps g w H us vs) (hd : (x == ("__debug__" : Str)) = false)
    (h : PE X a (tE g pf Wx p f)) :
    PE X (.Compare a [if ng then .NotIn else .In] [.Name x p2] pos) (tE g pf Wx p (ev1 f fun y => (inV y.look (.tup vs)).map fun b => .val (.bl (if ng then !b else b)))) ∧
    PT X (.Compare a [if ng then .NotIn else .In] [.Name x p2] pos) (tB (tE g pf Wx p (ev1 f fun y => (inV y.look (.tup vs)).map fun b => .val (.bl (if ng then !b else b))))) := by
  have hn : PE X (.Name x p2) (tC (.ref at')) := pe_glob hg hm rfl hd
  have ho : OpR X (compareOp (if ng then .NotIn else .In)) (fun y z H Q => ∃ w q b, z = .ref at' ∧ Lk g w H y q ∧ inV q (.tup vs) = some b ∧ Q (.bl (if ng then !b else b)) H) := by
    intro pins s σ H y z v u Q I ry rz ⟨w, q, b, e, l, e1, hq⟩
    subst e
    have e2 : (if dat 60 q && dats 60 vs then some (vs.any fun y => eqv y q) else none) = some b := by
      simpa only [inV] using e1
    split at e2
    · rename_i hd
      cases e2
      exact in_ok (K := g.K) hu ng hK I ry rz l (.inr (.inr hw)) (hv w H) hd hq
    · cases e2
  have i : ∀ σ H Q, tE g pf Wx p (ev1 f fun y => (inV y.look (.tup vs)).map fun b => .val (.bl (if ng then !b else b))) σ H Q → tOp (fun y z H Q => ∃ w q b, z = .ref at' ∧ Lk g w H y q ∧ inV q (.tup vs) = some b ∧ Q (.bl (if ng then !b else b)) H) (tE g pf Wx p f) (tC (.ref at')) σ H Q := fun σ H Q z =>
    one_imp (r := fun y H Q => ∃ w q b, (V.ref at') = .ref at' ∧ Lk g w H y q ∧ inV q (.tup vs) = some b ∧ Q (.bl (if ng then !b else b)) H) (fun w H H1 v x q Q rr e res => by
      cases q2 : inV x.look (.tup vs) with
      | none => rw [q2] at e; cases e
      | some b =>
        rw [q2] at e
        cases e
        exact ⟨w, x.look, b, rfl, rr.lk, q2, res.va _ _ rfl (.bl _)⟩) σ H Q z
  have hm' : behindInMarks (if ng then CmpOp.NotIn else CmpOp.In) (.Name x p2) = false := by cases ng <;> rfl
  exact ⟨(pe_cmpR ho h hn hm').imp i, (pt_cmpR ho h hn hm').imp (tB_mono i)⟩

/-! ### subscripts, slices -/
theorem s_idx (hK : X.K = g.K) (hu : X.A.units + 1 < cLine) (ha : PE X a (tE g pf Wx pa fa)) (hb : PE X b (tE g pf Wx pb fb)) (hs : PlainIx b) :
    PE X (.Subscript a b pos) (tE g pf Wx (pa && pb) (ev2 fa fb pb fun x y => (idxV x.look y.look).map .val)) :=
  (pe_ix (rx_op hK hu) ha hb hs).imp (two_imp fun w H v u x y q Q lx ly e res => by
    cases q2 : idxV x.look y.look with
    | none => rw [q2] at e; cases e
    | some r =>
      rw [q2] at e
      cases e
      exact ⟨w, _, _, r, lx, ly, q2, fun v' rp => res.va _ _ rfl rp⟩)
theorem asInt_of {p : PV} {j : Int} (h : asInt p = some j) : p = .int j := by
  cases p <;> simp [asInt] at h
  rw [h]
theorem s_slL (ha : PE X a (tE g pf Wx pa fa)) (hb : PE X b (tE g pf Wx pb fb)) :
    PE X (.Subscript a (.Slice (some b) none none p2) pos) (tE g pf Wx (pa && pb) (ev2 fa fb pb fun x y => (asInt y.look).bind fun j => sliceV x.look (some j) none)) :=
  (pe_slice rs_op ha (po_some hb) po_none).imp fun σ H Q z => by
    have k := two_imp (pa := pa) (pb := pb) (fa := fa) (fb := fb) (pf := pf) (Wx := Wx) (g := g) (f := fun x y => (asInt y.look).bind fun j => sliceV x.look (some j) none) (r := fun x y H Q => ∃ i, y = .int i ∧ rS g x (some i) none H Q) (fun w H v u x y q Q lx ly e res => by
      cases q2 : asInt y.look with
      | none => rw [q2] at e; cases e
      | some j =>
        rw [q2] at e
        exact ⟨j, (asInt_of q2 ▸ ly).int, w, _, q, lx, e, res⟩) σ H Q z
    exact k
theorem s_slH (ha : PE X a (tE g pf Wx pa fa)) (hb : PE X b (tE g pf Wx pb fb)) :
    PE X (.Subscript a (.Slice none (some b) none p2) pos) (tE g pf Wx (pa && pb) (ev2 fa fb pb fun x y => (asInt y.look).bind fun j => sliceV x.look none (some j))) :=
  (pe_slice rs_op ha po_none (po_some hb)).imp fun σ H Q z => by
    have k := two_imp (pa := pa) (pb := pb) (fa := fa) (fb := fb) (pf := pf) (Wx := Wx) (g := g) (f := fun x y => (asInt y.look).bind fun j => sliceV x.look none (some j)) (r := fun x y H Q => ∃ i, y = .int i ∧ rS g x none (some i) H Q) (fun w H v u x y q Q lx ly e res => by
      cases q2 : asInt y.look with
      | none => rw [q2] at e; cases e
      | some j =>
        rw [q2] at e
        exact ⟨j, (asInt_of q2 ▸ ly).int, w, _, q, lx, e, res⟩) σ H Q z
    exact k
theorem s_slB (ha : PE X a (tE g pf Wx pa fa)) (hb : PE X b (tE g pf Wx pb fb)) (hc : PE X c (tE g pf Wx pc fc)) :
    PE X (.Subscript a (.Slice (some b) (some c) none p2) pos) (tE g pf Wx (pa && (pb && pc)) (evSlB fa fb fc (pb && pc))) :=
  (pe_slice rs_op ha (po_some hb) (po_some hc)).imp fun σ H Q ⟨w0, H0, w, env, W, rel, o⟩ => by
    refine ⟨w0, H0, w, env, W, rel, oE.bind o and1 fun x W1 v H1 w1 _ rel1 ext1 s1 rr1 _ o1 => ?_⟩
    refine ⟨w0, H0, w1, env, W1, rel1, oE.bind o1 (fun z => and1 (and2 z)) fun y W2 u H2 w2 _ rel2 ext2 s2 rr2 _ o2 => ?_⟩
    cases q2 : asInt y.look with
    | none => rw [q2] at o2; exact o2.elim
    | some j =>
      rw [q2] at o2
      refine ⟨j, (asInt_of q2 ▸ rr2.lk).int, ?_⟩
      refine ⟨w0, H0, w2, env, W2, rel2, oE.bind o2 (fun z => and2 (and2 z)) fun z W3 t H3 w3 _ rel3 ext3 s3 rr3 _ o3 => ?_⟩
      split at o3
      · exact o3.elim
      · rename_i hb
        have pu : x.isB = true → pb = true ∧ pc = true := fun h => by
          rw [h] at hb
          cases pb <;> cases pc <;> simp at hb <;> exact ⟨rfl, rfl⟩
        have rx := (rr1.next ext2 fun h => s2 (pu h).1).next ext3 fun h => s3 (pu h).2
        cases q3 : asInt z.look with
        | none => rw [q3] at o3; exact o3.elim
        | some l =>
          rw [q3] at o3
          refine ⟨l, (asInt_of q3 ▸ rr3.lk).int, ?_⟩
          cases q4 : sliceV x.look (some j) (some l) with
          | none => rw [Option.bind_some, q4] at o3; exact o3.elim
          | some r =>
            rw [Option.bind_some, q4] at o3
            exact ⟨w3, _, r, rx.lk, q4, rel3.res o3⟩
end
end D

/-! D9M: methods, empty dicts, isinstance of exceptions. -/
namespace D
open PySem PySem.Spec PyProof.Rows L2
def noCall0 : Expr → Bool
  | .Call (.Name _ _) [] [] _ => false
  | _ => true
theorem noCall0_ok {o : Expr} (h : noCall0 o = true) (attr : Str) (env : Env) (whole : Sem Value) : attributeBase o attr env whole = whole := by
  unfold attributeBase
  split
  · cases h
  · rfl
section
variable {X : Cx} {g : Gx} {pf pa pb pc p p' : Bool} {Wx : WX} {fa fb fc f fo : F} {a b c e o : Expr} {pos apos cpos : Pos}
theorem PEs.flags {es : List Expr} {fs : List F} {q : Bool} (h : PEs X g pf Wx es fs q) : (backTo pos (starEach es X.env)).all (fun x => !x.1) = true := by
  have := h.plain (pos := pos)
  rw [List.all_eq_true]
  rw [List.any_eq_false] at this
  intro x hx
  simpa using this x hx
theorem tyM_tyV {w : Wd} {H : Hp} {m : MB} {v : V} {q : PV} (hK : X.K = g.K) (l : Lk g w H v q) (h : tyM m q = true) : tyV X.K (mbT m) v H := by
  unfold tyM at h
  split at h
  · obtain ⟨a, vs, rfl, e1, _⟩ := l.lst; exact .inl ⟨rfl, vs, SqL.of e1⟩
  · obtain ⟨a, vs, rfl, e1, _⟩ := l.lst; exact .inl ⟨rfl, vs, SqL.of e1⟩
  · rw [l.str.1]; rfl
  · rw [l.str.1]; rfl
  · obtain ⟨a, kvs, rfl, e1, _⟩ := l.dk; exact .inr (.inr (.inl ⟨rfl, .inl ⟨kvs, e1⟩⟩))
  · obtain ⟨a, kvs, rfl, e1, _⟩ := l.dt; exact .inr (.inr (.inl ⟨rfl, .inr ⟨kvs, e1⟩⟩))
  · cases h
theorem meth_imp (hK : X.K = g.K) {m : MB} {fs : List F} : ∀ σ H Q, tE g pf Wx (pa && p) (evMeth m fo fs p) σ H Q → tBM X.K (mbT m) (rM g m) (tE g pf Wx pa fo) (tAr g pf Wx p fs) σ H Q := fun σ H Q ⟨w0, H0, w, env, W, rel, o⟩ => by
  unfold evMeth at o
  refine ⟨w0, H0, w, env, W, rel, oE.bind o and1 fun x W1 v H1 w1 _ rel1 ext1 s1 rr1 _ o1 => ?_⟩
  split at o1
  · rename_i ht
    refine ⟨tyM_tyV hK rr1.lk ht, w0, H0, w1, env, W1, rel1, ?_⟩
    cases q : evs fs env W1 with
    | bad => rw [q] at o1; exact o1
    | exc c W2 => rw [q] at o1; exact o1
    | ok rs W2 =>
      rw [q] at o1
      simp only [Out.bind_ok] at o1
      intro vs H2 w2 ext2 s2 rel2 rrs hl
      split at o1
      · rename_i hb
        cases q2 : methV m x.look (rs.map R.look) with
        | none => rw [q2] at o1; exact o1.elim
        | some z =>
          rw [q2] at o1
          have nb : x.isB = true → p = true := fun hx => by
            rcases Bool.or_eq_true_iff.mp hb with k | k
            · unfold noB at k
              rw [List.all_cons, hx] at k
              exact absurd k (by simp)
            · exact k
          have hb2 : (noB rs || p) = true := by
            rcases Bool.or_eq_true_iff.mp hb with k | k
            · unfold noB at k ⊢
              rw [List.all_cons] at k
              rw [and2 k]
              rfl
            · rw [k, Bool.or_true]
          exact ⟨w2, _, _, z, (rr1.next ext2 fun hx => s2 (nb hx)).lk, (rrs hb2).lks, q2, rel2.res (o1.shift ext2 (fun z => s2 (and2 z)) (ext2.tr rel2.wk))⟩
      · exact o1.elim
  · exact o1.elim
theorem s_meth (hK : X.K = g.K) (hu : X.A.units + 65 < cLine) {m : MB} {es : List Expr} {fs : List F} (ho : PE X o (tE g pf Wx pa fo)) (h : PEs X g pf Wx (e :: es) fs p) (hbase : noCall0 o = true) (hline : (apos.endLine == cpos.line) = true) (hl : es.length < 20) :
    PE X (.Call (.Attribute o (mbN m) apos) (e :: es) [] cpos) (tE g pf Wx (pa && p) (evMeth m fo fs p)) := by
  have hfew : ((backTo cpos (starEach (e :: es) X.env)).all (fun x => !x.1) && (backToKw cpos (keywordEach [] X.env)).all (fun x => x.1.isSome)
      && decide ((e :: es).length + ([] : List Keyword).length + (if ([] : List Keyword).isEmpty then 0 else 1) < 30)) = true := by
    rw [h.flags]
    simp only [Bool.true_and, List.length_cons, List.length_nil, List.isEmpty_nil, if_true, Bool.and_eq_true, decide_eq_true_eq]
    exact ⟨rfl, by omega⟩
  have hs : starEach (e :: es) X.env = (false, eval e X.env) :: starEach es X.env := by
    cases h with
    | cons _ _ hs _ => exact hs
  have hpl : (backTo cpos (starEach es X.env)).any (·.1) = false := by
    cases h with
    | cons _ _ _ t => exact t.plain
  have hm := rm_op (g := g) hK hu m
  have i := meth_imp (pf := pf) (pa := pa) (p := p) (Wx := Wx) (fo := fo) (fs := fs) hK (m := m)
  cases m with
  | index => exact (pe_bm PySem.F.plainAttrs_list PySem.F.slot_list_index PySem.F.type_list_index hm ho h.args (noCall0_ok hbase _ _ _) hfew hline hs hpl).imp i
  | count => exact (pe_bm PySem.F.plainAttrs_list PySem.F.slot_list_count PySem.F.type_list_count hm ho h.args (noCall0_ok hbase _ _ _) hfew hline hs hpl).imp i
  | join => exact (pe_bm PySem.F.plainAttrs_str PySem.F.slot_str_join PySem.F.type_str_join hm ho h.args (noCall0_ok hbase _ _ _) hfew hline hs hpl).imp i
  | split => exact (pe_bm PySem.F.plainAttrs_str PySem.F.slot_str_split PySem.F.type_str_split hm ho h.args (noCall0_ok hbase _ _ _) hfew hline hs hpl).imp i
  | get => exact (pe_bm PySem.F.plainAttrs_dict PySem.F.slot_dict_get PySem.F.type_dict_get hm ho h.args (noCall0_ok hbase _ _ _) hfew hline hs hpl).imp i
/-- {} -/
theorem s_dct {t : Bool} : PE X (.Dict [] [] pos) (tE g pf Wx true (fun _ W => .ok (.fre (if t then .t [] [] else .k [] [])) W)) := by
  cases t with
  | true => exact pe_dnewT.imp fun σ H Q ⟨w0, H0, w, env, W, rel, o⟩ a ha => (rel.res o).fr _ a _ rfl ha (.t (kvs := []) rfl .nil)
  | false => exact pe_dnewK.imp fun σ H Q ⟨w0, H0, w, env, W, rel, o⟩ a ha => (rel.res o).fr _ a _ rfl ha (.k (kvs := []) rfl .nil)

/-! ### exceptions -/
/-- what the written part says of the exceptions' classes -/
structure ExOk (K : PySem.W.Frag) (m : Str → Option Value) (g : Gx) (xs : List Str) : Prop where
  nx : g.nx = xs.length
  gl : ∀ (c : Nat) (x : Str), xs[c]? = some x → m x = some (.ref (g.ca c))
  kp : ∀ c, c < g.nx → PySem.W.keepIn K (.ref (g.ca c)) = true
  ex : ∀ c, c < g.nx → PySem.W.excIn K (g.ca c) [.type "ValueError", .type "Exception", .type "BaseException", .type "object"] "ValueError.__new__" = true
  sb : ∀ c, c < g.nx → PySem.W.subIn K (.ref (g.ca c)) (.type "BaseException") = some true ∧ PySem.W.typeIn K (.ref (g.ca c)) = some (.type "type")
  cc : ∀ c, c < g.nx → ExcC K (g.ca c)
  em : ∀ c d, c < g.nx → d < g.nx → PySem.W.exmOne K (.ref (g.ca c)) (.ref (g.ca d)) = some (esub c d) ∧ PySem.W.kitOne K (.ref (g.ca c)) (.ref (g.ca d)) = some (esub c d)
  ve : ∀ c, c < g.nx → PySem.W.kitOne K (.ref (g.ca c)) (.type "ValueError") = some true
  vn : m "ValueError" = none
theorem isx_op {pins : List (Addr × Obj)} {s : Shared} {σ : L2.St} {H : Hp} {Dc a : Addr} {c : V} {cv : Value} {us : List Value} {Q : VK} {b : Bool} (C : ExcC X.K Dc) (I : Inv X pins σ H s) (h : H a = some (ExH (.ref Dc) a)) (rv : Vals [.ref a, c] us) (hcv : ∀ u, RelV c u → u = cv)
    (e : PySem.W.kitOne X.K (.ref Dc) cv = some b) (q : Q (.bl b) H) : wpAny (model X.prog X.w) X.A (call (.builtin "isinstance") us) (EP X pins σ Q) X.xe s := by
  cases rv with
  | cons rx rr =>
    cases rr with
    | cons rt rr =>
      cases rr
      cases rx
      have ec := hcv _ rt
      subst ec
      obtain ⟨⟨oe, vs, hget, hz, hv⟩, _, _⟩ := I.hok a _ h
      have J : PySem.W.InstAt s.heap a oe Dc none := by
        obtain ⟨oc, od, oda, osl⟩ := oe
        obtain ⟨h1, h2⟩ := hz
        dsimp only at h1 h2 hv
        subst h1 h2 hv
        exact ⟨hget, rfl, rfl, trivial⟩
      exact PySem.W.kia_one (PySem.W.handS_kitx_exc C.hg C.hk C.hs C.hd C.ha C.hn C.ht C.hm) I.kIn J e (fun z => nomatch z) fun tk => ⟨.bl b, H, I.kept (t' := tk) fun _ _ z => z, rfl, q⟩
theorem Lk.exc {w : Wd} {H : Hp} {v : V} {c : Nat} (h : Lk g w H v (.exc c)) : c < g.nx ∧ ∃ a, v = .ref a ∧ H a = some (ExH (.ref (g.ca c)) a) := by
  rcases h with h | ⟨a, c', _, e, _⟩
  · cases h with
    | exc hc f h => exact ⟨hc, _, rfl, h⟩
  · exact absurd e.symm (Ct.pv_ne.2.2.2.2.2.2.1 c)
/-- isinstance(a, X), a an exception of ours -/
theorem s_isx (hK : X.K = g.K) {xs : List Str} (E : ExOk X.K X.mg g xs) {x : Str} {d : Nat} {p2 p3 : Pos} (hx : xs[d]? = some x ∨ (d = 99 ∧ x = "ValueError")) (hg : Gl X "isinstance") (hm : X.mg "isinstance" = none) (hg2 : Gl X x) (hd : (x == ("__debug__" : Str)) = false)
    (h : PE X a (tE g pf Wx p f)) (hs : starEach [a, .Name x p3] X.env = (false, eval a X.env) :: starEach [.Name x p3] X.env) :
    PE X (.Call (.Name "isinstance" p2) [a, .Name x p3] [] pos) (tE g pf Wx p (ev1 f fun y => (isxV d y.look).map fun b => .val (.bl b))) := by
  obtain ⟨cV, cv, hn, hcv, kit⟩ : ∃ (cV : V) (cv : Value), PE X (.Name x p3) (tC cV) ∧ (∀ u, RelV cV u → u = cv) ∧ ∀ c, c < g.nx → PySem.W.kitOne X.K (.ref (g.ca c)) cv = some (esub c d) := by
    rcases hx with hx | ⟨rfl, rfl⟩
    · have hlt : d < g.nx := by rw [E.nx]; exact (List.getElem?_eq_some_iff.mp hx).1
      exact ⟨.ref (g.ca d), .ref (g.ca d), pe_glob hg2 (E.gl d x hx) rfl hd, fun u r => r, fun c hc => (E.em c d hc hlt).2⟩
    · refine ⟨.ty "ValueError", .type "ValueError", pe_bltn hg2 E.vn (u := .type "ValueError") rfl rfl (by decide) hd, fun u r => r, fun c hc => ?_⟩
      rw [E.ve c hc]
      simp [esub]
  have cr : CallR X (.builtin "isinstance") (fun vs H Q => ∃ v w c b, vs = [v, cV] ∧ Lk g w H v (.exc c) ∧ esub c d = b ∧ Q (.bl b) H) := by
    intro pins s σ H vs us Q I rv ⟨v, w, c, b, e, l, e1, hq⟩
    subst e
    obtain ⟨hc, a', rfl, hH⟩ := l.exc
    exact isx_op (E.cc c hc) I hH rv hcv (kit c hc) (e1 ▸ hq)
  refine (pe_callB cr hg hm rfl (pa_cons h (pa_cons hn pa_nil) hs) (by decide) (by decide) hs rfl).imp fun σ H Q z => ?_
  exact one_imp (r := fun v H Q => ∃ v' w c b, [v, cV] = [v', cV] ∧ Lk g w H v' (.exc c) ∧ esub c d = b ∧ Q (.bl b) H) (fun w H H1 v x q Q rr e res => by
    cases q2 : isxV d x.look with
    | none => rw [q2] at e; cases e
    | some b =>
      rw [q2] at e
      cases e
      unfold isxV at q2
      split at q2
      · rename_i c hl
        cases q2
        exact ⟨v, w, c, esub c d, rfl, hl ▸ rr.lk, rfl, res.va _ _ rfl (.bl _)⟩
      · cases q2) σ H Q z
end
end D

/-! D9R: e[::-1] of lists and tuples. -/
namespace D
open PySem PySem.Spec PyProof.Rows L2
section
variable {prog : Program} {w : World} {A : Around} {E : Value → Shared → Prop} {s : Shared}
theorem adjust_back (n : Nat) : Builtin.Slice.sliceAdjust none none (-1) (n : Int) = ((n : Int) - 1, -1) := by
  simp [Builtin.Slice.sliceAdjust]
theorem places_back (n : Nat) : Builtin.Slice.slicePlaces ((n : Int) - 1) (-1) (-1) = n := by
  unfold Builtin.Slice.slicePlaces
  rw [if_neg (by omega)]
  by_cases h : n = 0
  · subst h; simp
  · rw [if_pos (by omega)]
    simp
theorem fm_map {α β : Type} {f : α → Option β} {g : α → β} : ∀ {l : List α}, (∀ m ∈ l, f m = some (g m)) → l.filterMap f = l.map g
  | [], _ => rfl
  | m :: l, h => by
    rw [List.filterMap_cons, h m (by simp), List.map_cons, fm_map fun x hx => h x (by simp [hx])]
theorem pick_back (xs : Array Value) : ((List.range xs.size).filterMap fun (m : Nat) => xs[(((xs.size : Nat) : Int) - 1 + (m : Int) * (-1)).toNat]?).toArray = xs.toList.reverse.toArray := by
  congr 1
  refine List.ext_getElem? fun i => ?_
  have e : (List.range xs.size).filterMap (fun (m : Nat) => xs[(((xs.size : Nat) : Int) - 1 + (m : Int) * (-1)).toNat]?) = (List.range xs.size).map (fun m => xs.toList.reverse.getD m .none) := by
    refine fm_map fun m hm => ?_
    have hm' := List.mem_range.mp hm
    have h1 : (((xs.size : Nat) : Int) - 1 + (m : Int) * (-1)).toNat = xs.size - 1 - m := by omega
    rw [h1]
    have h2 : xs.toList.reverse[m]? = xs.toList[xs.size - 1 - m]? := by
      rw [List.getElem?_reverse (by rw [Array.length_toList]; exact hm'), Array.length_toList]
    rw [List.getD_eq_getElem?_getD, h2, Array.getElem?_toList, Array.getElem?_eq_getElem (by omega)]
    rfl
  rw [e, List.getElem?_map]
  by_cases hi : i < xs.size
  · rw [List.getElem?_range hi]
    have : i < xs.toList.reverse.length := by rw [List.length_reverse, Array.length_toList]; exact hi
    rw [Option.map_some, List.getD_eq_getElem?_getD, List.getElem?_eq_getElem this]
    rfl
  · rw [List.getElem?_eq_none (by rw [List.length_range]; omega), List.getElem?_eq_none (by rw [List.length_reverse, Array.length_toList]; omega)]
    rfl
theorem applied_back {sl : Addr} {vs : Value} {n : Nat} {Q : Int × Int × Nat → Shared → Prop} (hs : s.heap.IsSliceOf sl .none .none vs) (ps : IsPart vs (some (-1))) (h : Q ((n : Int) - 1, -1, n) s) : wpAny (model prog w) A (Builtin.Slice.sliceApplied (.ref sl) (pure (n : Int))) Q E s := by
  obtain ⟨ob, at1, _, fs⟩ := id hs
  unfold Builtin.Slice.sliceApplied Builtin.Slice.sliceFields
  refine wpAny_bind (wpAny_bind (wpAny_field at1 fs (x := .none) rfl (wpAny_bind (wpAny_field at1 fs (x := .none) rfl (wpAny_bind (wpAny_field at1 fs (x := vs) rfl (wpAny_pure ?_)))))))
  refine wpAny_bind (HT.slicePart_ ps ?_)
  change wpAny _ _ (if ((-1 : Int) == 0) = true then _ else _) _ _ s
  rw [if_neg (by decide)]
  refine wpAny_bind (HT.slicePart_ .none (wpAny_bind (HT.slicePart_ .none (wpAny_bind (wpAny_pure ?_)))))
  change wpAny _ _ (match Builtin.Slice.sliceAdjust none none (-1) (n : Int) with | (lo, hi) => pure (lo, (-1 : Int), Builtin.Slice.slicePlaces lo hi (-1))) _ _ s
  rw [adjust_back]
  change wpAny _ _ (pure ((n : Int) - 1, (-1 : Int), Builtin.Slice.slicePlaces ((n : Int) - 1) (-1) (-1))) _ _ s
  rw [places_back]
  exact wpAny_pure h
theorem tuple_back {t sl : Addr} {items : Array Value} {vs : Value} {Q : Value → Shared → Prop} (ht : IsTup s.heap t items) (hs : s.heap.IsSliceOf sl .none .none vs) (ps : IsPart vs (some (-1)))
    (h : Q (.ref s.heap.objs.size) { s with heap := s.heap.push { cls := .type "tuple", data := .seq items.toList.reverse.toArray } }) (few : items.size ≤ sizeLine) : wpAny (model prog w) A (getItem (.ref t) (.ref sl)) Q E s := by
  have room : sizeOk (.seq items.toList.reverse.toArray) := by
    show items.toList.reverse.toArray.size ≤ sizeLine
    rw [List.size_toArray, List.length_reverse, Array.length_toList]
    exact few
  obtain ⟨ob, at1, cl, _⟩ := id hs
  have isS : s.TypeIs (.ref sl) "slice" := ⟨ob, at1, cl⟩
  unfold getItem
  try with_reducible refine wpAny_holding ?_
  first | refine wpAny_bind (wpAny_pure ?_) | skip
  refine wpAny_bind (wpAny_sequenceKey ht.typeIs (by decide) ?_)
  refine wpAny_bind (wpAny_callSpecial?_slot (name := Str.ofString "__getitem__") ht.typeIs slot_tuple_getitem (wpAny_call_entry slot_tuple_getitem ht.typeIs entry_tuple_getitem ?_ (args_tuple_getitem _ _)))
  change wpAny _ _ (Builtin.Tuple.tupleItemsOf (.ref t) >>= _) _ _ s
  refine wpAny_bind (tupleItemsOf_ ht (wpAny_bind (wpAny_typeOf isS ?_)))
  rw [if_pos (by decide)]
  refine wpAny_bind (applied_back hs ps ?_)
  have other : ¬ ((((items.size : Int) - 1) == 0 && (-1 : Int) == 1 && items.size == items.size) = true) := by
    rw [show ((-1 : Int) == 1) = false from by decide]
    simp
  change wpAny _ _ (if (((items.size : Int) - 1) == 0 && (-1 : Int) == 1 && items.size == items.size) = true then _ else _) _ _ s
  rw [if_neg other, pick_back]
  first
    | exact wpAny_bind (m := Builtin.Tuple.tupleExact _) (wpAny_newObj_type (wpAny_pure ⟨_, rfl, wpAny_pure h⟩) room)
    | exact wpAny_bind (wpAny_bind (m := Builtin.Tuple.tupleExact _) (wpAny_newObj_type (wpAny_pure (wpAny_pure ⟨_, rfl, wpAny_pure h⟩)) room))
    | exact wpAny_bind (m := Builtin.Tuple.tupleExact _) (wpAny_newObj_type (wpAny_bind (wpAny_pure (wpAny_pure ⟨_, rfl, wpAny_pure h⟩))) room)
end
section
variable {X : Cx} {g : Gx} {pf p : Bool} {Wx : WX} {f : F} {e : Expr} {k : Nat} {p1 p2 p3 pos : Pos} {te : TE}
/-- e[::-1] -/
def tRev (K : PySem.W.Frag) (te : TE) : TE := fun σ H Q => te σ H fun x H1 => (∃ a xs, x = .ref a ∧ SqL K H1 a xs ∧ ∀ b, H1 b = none → Q (.ref b) (upd H1 b (.lst xs.reverse))) ∨
  (∃ a xs, x = .ref a ∧ SqT K H1 a xs ∧ newT xs.reverse H1 Q)
theorem pe_rev (he : PE X e te) : PE X (.Subscript e (.Slice none none (some (.UnaryOp .USub (.Constant (.int 1) k p1) p2)) p3) pos) (tRev X.K te) := by
  refine ⟨fun pins s σ H Q I h => Subscript_ (thn (he.run pins s σ H _ I h) fun v s1 ⟨x, H1, I1, r1, q1⟩ => ?_)⟩
  have minus : PO X (some (.UnaryOp .USub (.Constant (.int 1) k p1) p2)) (tPart (tUn (rU fun i => .int (-i)) (tC (.int 1)))) := po_some (pe_un un_neg pe_int)
  refine wpAny_Slice (thn (po_none.run pins s1 σ H1 (fun o G => o = none ∧ G = H1) I1 ⟨rfl, rfl⟩) fun ul s2 ⟨l, H2, I2, pl, el, e2⟩ => ?_)
  cases el
  cases e2
  refine thn (po_none.run pins s2 σ H1 (fun o G => o = none ∧ G = H1) I2 ⟨rfl, rfl⟩) fun uu s3 ⟨u, H3, I3, pu, eu, e3⟩ => ?_
  cases eu
  cases e3
  refine thn (minus.run pins s3 σ H1 (fun o G => o = some (-1) ∧ G = H1) I3 ⟨1, rfl, -1, rfl, rfl, rfl⟩) fun us s4 ⟨o, H4, I4, ps, eo, e4⟩ => ?_
  cases eo
  cases e4
  cases pl
  cases pu
  have I5 : Inv X pins σ H1 { s4 with heap := s4.heap.push { cls := .type "slice", data := .fields #[.none, .none, us] } } := I4.kept (t' := s4.toks) fun b ob q => Heap.get?_push_of_some _ q
  rcases q1 with ⟨a, xs, rfl, sq, q⟩ | ⟨a, xs, rfl, sq, q⟩
  · cases r1
    obtain ⟨its, rv, isL, few⟩ := I5.list sq
    have hlen := rv.length
    change wpAny (model X.prog X.w) X.A (subscriptTail e (.Slice none none (some (.UnaryOp .USub (.Constant (.int 1) k p1) p2)) p3) (.ref a) (.ref s4.heap.objs.size)) (EP X pins σ Q) X.xe { s4 with heap := s4.heap.push { cls := .type "slice", data := .fields #[.none, .none, us] } }
    refine tail_any (ops := [.ref a, .ref s4.heap.objs.size]) isL.isList.typeIs PySem.slot_list_getitem.lookup ?_ (by with_unfolding_all rfl)
    refine wpAny_getItem_list_slice isL.isList (Heap.IsSliceOf.new _ .none .none us) .none .none ps (by decide) ?_ (by rw [List.size_toArray]; omega)
    rw [PySem.W.krv_pick]
    exact ⟨.ref _, _, I5.laid (t' := s4.toks) (o := .lst xs.reverse) (fun b ob q => Heap.get?_push_of_some _ q) (Nat.le_refl _) ⟨by rw [List.length_reverse]; exact few, _, 0, rv.reverse, Heap.get?_push_size _ rfl⟩, rfl, q _ (I5.hok.fresh (Nat.le_refl _))⟩
  · cases r1
    obtain ⟨its, rv, isT, few⟩ := I5.tuple sq
    have hlen := rv.length
    change wpAny (model X.prog X.w) X.A (subscriptTail e (.Slice none none (some (.UnaryOp .USub (.Constant (.int 1) k p1) p2)) p3) (.ref a) (.ref s4.heap.objs.size)) (EP X pins σ Q) X.xe { s4 with heap := s4.heap.push { cls := .type "slice", data := .fields #[.none, .none, us] } }
    refine tail_any (ops := [.ref a, .ref s4.heap.objs.size]) isT.typeIs slot_tuple_getitem.lookup ?_ (by with_unfolding_all rfl)
    refine tuple_back isT (Heap.IsSliceOf.new _ .none .none us) ps ?_ (by rw [List.size_toArray]; omega)
    obtain ⟨c, q⟩ := q
    have eb : ({ cls := .type "tuple", data := .seq its.toArray.toList.reverse.toArray } : Obj) = bareO its.reverse := by simp [bareO]
    exact ⟨.ref _, _, I5.laid (t' := s4.toks) (o := tupH c (bareO its.reverse) xs.reverse) (fun b ob q => Heap.get?_push_of_some _ q) (Nat.le_refl _) (tupH_ok (by rw [List.length_reverse]; exact few) rv.reverse (by rw [← eb]; exact Heap.get?_push_size _ rfl)), rfl, q _ _ (I5.hok.fresh (Nat.le_refl _)) (bareO_ok _)⟩
theorem Rps.rev {w : Wd} {H : Hp} : ∀ {vs : List V} {ps : List PV}, Rps g w H vs ps → Rps g w H vs.reverse ps.reverse
  | _, _, .nil => .nil
  | _, _, .cons r t => by
    rw [List.reverse_cons, List.reverse_cons]
    exact (Rps.rev t).append (.cons r .nil)
theorem s_rev (h : PE X e (tE g pf Wx p f)) : PE X (.Subscript e (.Slice none none (some (.UnaryOp .USub (.Constant (.int 1) k p1) p2)) p3) pos) (tE g pf Wx p (ev1 f fun x => revV x.look)) :=
  (pe_rev h).imp fun σ H Q z => one_imp (r := fun x H1 Q => (∃ a xs, x = .ref a ∧ SqL X.K H1 a xs ∧ ∀ b, H1 b = none → Q (.ref b) (upd H1 b (.lst xs.reverse))) ∨ (∃ a xs, x = .ref a ∧ SqT X.K H1 a xs ∧ newT xs.reverse H1 Q)) (fun w H H1 v x q Q rr e res => by
    have lk := rr.lk
    generalize x.look = y at e lk
    cases y <;> simp only [revV] at e <;> try (cases e; done)
    · cases e
      obtain ⟨a, vs, rfl, e1, r⟩ := lk.tup
      exact .inr ⟨a, vs, rfl, .inl e1, _, fun b o hb hbb => res.tu _ _ _ o rfl hb hbb r.rev⟩
    · cases e
      obtain ⟨a, vs, rfl, e1, r⟩ := lk.lst
      exact .inl ⟨a, vs, rfl, SqL.of e1, fun b hb => res.fr _ _ _ rfl hb (.l r.rev)⟩) σ H Q z
end
end D

/-! D9I: instances: fields, methods' calls, new ones. -/
namespace D
open PySem PySem.Spec PyProof.Rows L2
/-! ### what is owed where a method is called, or an instance made: the exceptions by the slots -/
section
variable {X : Cx} {CX : CXT} {k : Nat} {f C : Addr} {fd : FuncData} {ps : List Str} {sp : Sp} {E : L2.St → XK} {x m : Str} {p pos apos : Pos} {e o : Expr} {es : List Expr} {ta : TE} {t : TA}
def tMetO (C : Addr) (m : Str) (sp : Sp) (E : L2.St → XK) (ta : TE) (t : TA) : TE := fun σ H Q => ta σ H fun y H1 => ∃ (a dx : Addr) (l : List (Str × V)), y = .ref a ∧ H1 a = some (.ins C dx l) ∧ l.lookup m = none ∧ t σ H1 fun vs H2 => sp (y :: vs) H2 Q (E σ)
theorem pe_metO {pl : Sem Bool} (ho : PE X o ta) (c : Cls X.K C) (hm : Meth X.K C m f) (F : FnOk X.prog X.w X.K X.mg X.base CX k f fd ps sp) (hr : Room k X.A) (hb : Binds X.K fd ps []) (hx : ∀ σ, PassesAt CX X σ (E σ)) (hes : PA X (e :: es) t) (hst : starEach (e :: es) X.env = (false, eval e X.env) :: starEach es X.env)
    (hpl : (backTo pos (starEach es X.env)).any (·.1) = false) (ht : eval (.Call (.Attribute o m apos) (e :: es) [] pos) X.env = (do let ov ← eval o X.env; standAt apos.atName; let (f, first) ← holding [ov] (getMethod ov m pl); callWith pos f first (backTo pos (starEach (e :: es) X.env)) (backToKw pos (keywordEach [] X.env))) := by rfl) :
    PE X (.Call (.Attribute o m apos) (e :: es) [] pos) (tMetO C m sp E ta t) :=
  ⟨fun pins s σ H Q I h => PySem.W.methodCall_KW (pl := pl) (thn (ho.run pins s σ H _ I h) fun u s1 ⟨y, H1, I1, ry, a, dx, l, ey, ea, hl, q⟩ => by
    subst ey
    obtain rfl : u = Value.ref a := ry
    exact getmeth_ok I1 ea c hm hl (PySem.W.callWith_K (first := [.ref a]) (h₀ := X.base) I.ok.mod.kin hm.kp (thn (hes.run pos pins s1 σ H1 _ I1 q) fun us s2 ⟨vs, H2, I2, r, q2⟩ =>
      ⟨I2.kIn, run_fnS (us := .ref a :: us) (vs := .ref a :: vs) F hr hb (hx σ) I2 (.cons rfl r) q2⟩) hst hpl)) ht⟩
theorem pe_metO0 {pl : Sem Bool} (ho : PE X o ta) (c : Cls X.K C) (hm : Meth X.K C m f) (F : FnOk X.prog X.w X.K X.mg X.base CX k f fd ps sp) (hr : Room k X.A) (hb : Binds X.K fd ps []) (hx : ∀ σ, PassesAt CX X σ (E σ))
    (ht : eval (.Call (.Attribute o m apos) [] [] pos) X.env = (do let ov ← eval o X.env; standAt apos.atName; let (f, first) ← holding [ov] (getMethod ov m pl); callWith pos f first (backTo pos (starEach [] X.env)) (backToKw pos (keywordEach [] X.env))) := by rfl) :
    PE X (.Call (.Attribute o m apos) [] [] pos) (tMetO C m sp E ta tNil) :=
  ⟨fun pins s σ H Q I h => PySem.W.methodCall_KW (pl := pl) (thn (ho.run pins s σ H _ I h) fun u s1 ⟨y, H1, I1, ry, a, dx, l, ey, ea, hl, q⟩ => by
    subst ey
    obtain rfl : u = Value.ref a := ry
    exact getmeth_ok I1 ea c hm hl (PySem.W.callWith_K0 (first := [.ref a]) I1.kIn hm.kp (run_fnS (us := [.ref a]) (vs := [.ref a]) F hr hb (hx σ) I1 (.cons rfl .nil) q))) ht⟩
def tNewO (C : Addr) (sp : Sp) (E : L2.St → XK) (t : TA) : TE := fun σ H Q => t σ H fun vs H1 => ∀ y dx : Addr, H1 y = none → H1 dx = none → dx ≠ y → sp (.ref y :: vs) (upd (upd H1 dx (.own y)) y (.ins C dx [])) (fun v H2 => v = .non ∧ Q (.ref y) H2) (E σ)
theorem run_newO {pins : List (Addr × Obj)} {σ : L2.St} {H : Hp} {s : Shared} {Q : VK} {us : List Value} {vs : List V} (M : Mk X.K C f) (F : FnOk X.prog X.w X.K X.mg X.base CX k f fd ps sp) (hr : Room (k + 1) X.A) (hb : Binds X.K fd ps []) (hx : PassesAt CX X σ (E σ)) (I : Inv X pins σ H s) (r : Vals vs us)
    (h : ∀ y dx : Addr, H y = none → H dx = none → dx ≠ y → sp (.ref y :: vs) (upd (upd H dx (.own y)) y (.ins C dx [])) (fun v H2 => v = .non ∧ Q (.ref y) H2) (E σ)) : wpAny (model X.prog X.w) X.A (call (.ref C) us) (EP X pins σ Q) X.xe s := by
  generalize hn : s.heap.objs.size = n
  have J := Inv.made (C := C) I
  have q0 := h (n + 1) n (I.hok.fresh (hn ▸ Nat.le_succ _)) (I.hok.fresh (hn ▸ Nat.le_refl _)) (Nat.ne_of_lt (Nat.lt_succ_self n))
  rw [hn] at J
  have rr : Vals (V.ref (n + 1) :: vs) (Value.ref (n + 1) :: us) := .cons rfl r
  have len : (Value.ref (n + 1) :: us).length = ps.length := by rw [← rr.length]; exact F.len _ _ _ _ q0
  have b := hb _ (Value.ref (n + 1) :: us) J.kIn (by rw [List.append_nil]; exact len)
  rw [List.append_nil] at b
  subst hn
  refine wpAny_call (make_map (f := f) I.kIn M.makes M.init (beq_iff_eq.mp M.fn) (codeAny_mono (F.run _ X.stack _ _ _ _ _ _ (E σ) (hr.make C us []) (J.env0.make C us []) b rr q0) fun z s' hz => ?_))
  rcases z with e | fl
  · exact hx pins _ _ e s' J hz
  · cases fl with
    | ret u =>
      obtain ⟨v, H', J3, rv, rfl, q3⟩ := J.after hz
      exact ⟨rv, V.ref (s.heap.objs.size + 1), H', J3, rfl, q3⟩
    | _ => exact False.elim hz
theorem pe_newO (M : Mk X.K C f) (F : FnOk X.prog X.w X.K X.mg X.base CX k f fd ps sp) (hr : Room (k + 1) X.A) (hg : Gl X x) (hm : X.mg x = some (.ref C)) (hb : Binds X.K fd ps []) (hx : ∀ σ, PassesAt CX X σ (E σ)) (hes : PA X (e :: es) t) (hdb : (x == ("__debug__" : Str)) = false)
    (hst : starEach (e :: es) X.env = (false, eval e X.env) :: starEach es X.env) (hpl : (backTo pos (starEach es X.env)).any (·.1) = false) : PE X (.Call (.Name x p) (e :: es) [] pos) (tNewO C sp E t) :=
  ⟨fun pins s σ H Q I h => wpAny_Call_Name_kw (ld_glob I hg hm (PySem.W.callWith_K (h₀ := X.base) I.ok.mod.kin M.kp (thn (hes.run pos pins s σ H _ I h) fun us s1 ⟨vs, H1, I1, r, q⟩ => ⟨I1.kIn, run_newO M F hr hb (hx σ) I1 r q⟩) hst hpl) hdb)⟩
end
section
variable {X : Cx} {g : Gx} {pf p p' : Bool} {Wx : WX} {fa : F} {fs : List F} {e : Expr} {es : List Expr} {pos apos p2 : Pos}
theorem Rp.obj' {w : Wd} {H : Hp} {v : V} {n : Nat} (h : Rp g w H v (.obj n)) : ∃ a, v = .ref a ∧ w.ob[n]? = some a := by cases h with | obj h => exact ⟨_, rfl, h⟩
/-- an instance's field -/
theorem s_fld {f : Str} (hcl : ∀ c, c < g.nc → Cls X.K (g.cc c)) (hna : ∀ c, c < g.nc → NoAttr X.K (g.cc c) f) (h : PE X e (tE g pf Wx p fa)) (hb : attributeBase e f X.env (eval e X.env) = eval e X.env) : PE X (.Attribute e f pos) (tE g pf Wx p (evFld fa f)) :=
  (pe_fld h hb).imp fun σ H Q ⟨w0, H0, w, env, W, rel, o⟩ => ⟨w0, H0, w, env, W, rel, oE.bind o id fun x W1 v H1 w1 _ rel1 ext1 s1 rr1 _ o1 => by
    split at o1
    case h_2 => exact o1.elim
    rename_i n _
    obtain ⟨a, rfl, ha⟩ := Rp.obj' rr1
    split at o1
    case h_2 => exact o1.elim
    rename_i ob hob
    have at1 := rel1.wk.og n a ob ha hob
    obtain ⟨dx, l, hl, hf⟩ := at1.st
    split at o1
    · rename_i q hq
      obtain ⟨v', e1, r1⟩ := hf.get hq
      exact ⟨a, _, dx, l, v', rfl, hl, hcl _ at1.cl, hna _ at1.cl, e1, o1 v' H1 w1 (Ext.refl _ _) (fun _ => Same.refl _) rel1 r1⟩
    · rename_i c hq
      obtain ⟨v', e1, b, rfl, _, _, k⟩ := hf.get hq
      exact ⟨a, _, dx, l, _, rfl, hl, hcl _ at1.cl, hna _ at1.cl, e1, o1 (.ref b) H1 w1 (Ext.refl _ _) (fun _ => Same.refl _) rel1 ⟨b, rfl, k⟩⟩
    · exact o1.elim⟩
theorem OwnAt.ct {w : Wd} {W : Om} {H : Hp} (wk : WOk g w W H) {n : Nat} {f : Str} {b : Addr} (h : OwnAt w W H n f b) : ∃ c, CtOk g w H b c ∧ w.G b ∧ ¬ w.F b := by
  obtain ⟨a, o, C, dx, l, c, h1, h2, h3, h4, h5⟩ := h
  have at1 := wk.og n a o h1 h2
  obtain ⟨dx', l', h6, h7⟩ := at1.st
  rw [h3] at h6
  cases h6
  obtain ⟨v, e1, b', rfl, h8, h9, h10⟩ := h7.get h4
  rw [h5] at e1
  cases e1
  exact ⟨c, h10, h8, h9⟩
/-- no list or dict is an instance -/
theorem ob_ne {w : Wd} {W : Om} {H : Hp} (wk : WOk g w W H) {m : Nat} {a b : Addr} {c : Ct} (hm : w.ob[m]? = some a) (k : CtOk g w H b c) : a ≠ b := by
  rintro rfl
  have hlt : m < W.length := by rw [← wk.ol]; exact (List.getElem?_eq_some_iff.mp hm).1
  obtain ⟨dx, l, e, _⟩ := (wk.og m a W[m] hm (List.getElem?_eq_getElem hlt)).st
  cases k with
  | l e1 _ => rw [e] at e1; cases e1
  | k e1 _ _ => rw [e] at e1; cases e1
  | t e1 _ _ => rw [e] at e1; cases e1
theorem WOk.obG {w : Wd} {W : Om} {H : Hp} (wk : WOk g w W H) {m : Nat} {a : Addr} (hm : w.ob[m]? = some a) : w.G a ∧ ¬ w.F a := by
  have hlt : m < W.length := by rw [← wk.ol]; exact (List.getElem?_eq_some_iff.mp hm).1
  have := wk.og m a W[m] hm (List.getElem?_eq_getElem hlt)
  exact ⟨this.hG, this.hF⟩
/-- .. whose list or dict is never changed again -/
theorem s_fldF {f : Str} (hcl : ∀ c, c < g.nc → Cls X.K (g.cc c)) (hna : ∀ c, c < g.nc → NoAttr X.K (g.cc c) f) (h : PE X e (tE g pf Wx p fa)) (hb : attributeBase e f X.env (eval e X.env) = eval e X.env) : PE X (.Attribute e f pos) (tE g pf Wx p (evFldF fa f)) :=
  (pe_fld h hb).imp fun σ H Q ⟨w0, H0, w, env, W, rel, o⟩ => ⟨w0, H0, w, env, W, rel, oE.bind o id fun x W1 v H1 w1 _ rel1 ext1 s1 rr1 _ o1 => by
    split at o1
    case h_2 => exact o1.elim
    rename_i n _
    obtain ⟨a, rfl, ha⟩ := Rp.obj' rr1
    split at o1
    case h_2 => exact o1.elim
    rename_i ob hob
    have wk := rel1.wk
    have at1 := wk.og n a ob ha hob
    obtain ⟨dx, l, hl, hf⟩ := at1.st
    split at o1
    · rename_i q hq
      obtain ⟨v', e1, r1⟩ := hf.get hq
      exact ⟨a, _, dx, l, v', rfl, hl, hcl _ at1.cl, hna _ at1.cl, e1, o1 v' H1 w1 (Ext.refl _ _) (fun _ => Same.refl _) rel1 r1⟩
    · rename_i c hq
      obtain ⟨v', e1, b, rfl, hbG, hbF, k⟩ := hf.get hq
      have own0 : OwnAt w1 W1 H1 n f b := ⟨a, ob, _, dx, l, c, ha, hob, hl, hq, e1⟩
      have fz : Fz w1 H1 (w1.frz b) H1 := ⟨fun c z => ⟨.inr z, rfl⟩, fun _ _ h => h⟩
      have ex : Ext w1 H1 (w1.frz b) H1 := ⟨fun c z => ⟨.inr z, rfl⟩, fun c z => .inr z, fun c o e ng => ⟨e, fun z => absurd z (fun q => q.elim (fun z => ng (z ▸ hbG)) ng)⟩, fun _ _ h => h⟩
      have wk' : WOk g (w1.frz b) (W1.set n ⟨ob.cls, putS f (.val c.pv) ob.fs⟩) H1 := wk.put1 rfl (fun c z => z.imp id (wk.FG c)) (fun c z => z.elim (fun q => q ▸ k.ex) (wk.tr c)) fz ha hob hl (by rw [putF_self e1]; exact hl)
        (fun m b' hm => ⟨.inr (wk.obG hm).1, fun z => z.elim (ob_ne wk hm k) (wk.obG hm).2, fun _ => rfl⟩)
        (fun m kx b' hm hne => by
          obtain ⟨c', k', g', f'⟩ := hm.ct wk
          refine ⟨rfl, .inr g', fun z => z.elim (fun q => ?_) f'⟩
          subst q
          exact hne (wk.oc _ _ _ _ _ hm own0)) k.pv (fun c' b' z => by cases z)
      exact ⟨a, _, dx, l, _, rfl, hl, hcl _ at1.cl, hna _ at1.cl, e1, o1 (.ref b) H1 (w1.frz b) ex (fun _ => Same.refl _) (rel1.next ex wk' (fun _ h => h) fun _ => Same.refl _) k.pv⟩
    · exact o1.elim⟩
/-- a method's call -/
theorem met_imp {c : Nat} {m : Str} {fn : Fn} {pu : Bool} {pa : Bool} {n0 : Nat} (hc : True) (hl : fs.length + 1 = n0) (hpu : pf = true → pu = true) :
    ∀ σ H Q, tE g pf Wx (pu && (pa && p)) (evMc fn c m fa fs) σ H Q → tMetO (g.cc c) m (spF g fn pu n0) (fun σ => WE Wx σ) (tE g pf Wx pa fa) (tAr g pf Wx p fs) σ H Q := fun σ H Q ⟨w0, H0, w, env, W, rel, o⟩ => by
  unfold evMc at o
  refine ⟨w0, H0, w, env, W, rel, oE.bind o (fun z => and1 (and2 z)) fun x W1 v H1 w1 _ rel1 ext1 s1 rr1 _ o1 => ?_⟩
  split at o1
  case h_2 => exact o1.elim
  rename_i n _
  obtain ⟨a, rfl, ha⟩ := Rp.obj' rr1
  split at o1
  case h_2 => exact o1.elim
  rename_i ob hob
  split at o1
  case isFalse => exact o1.elim
  rename_i hcm
  obtain ⟨rfl, hm⟩ := hcm
  have at1 := rel1.wk.og n a ob ha hob
  obtain ⟨dx, l, hl', hf⟩ := at1.st
  refine ⟨a, dx, l, rfl, hl', hf.none (Option.isNone_iff_eq_none.mp hm), w0, H0, w1, env, W1, rel1, plain_args (K := fun vs W2 => fn (.obj n :: vs) W2) o1 rel1 (fun z => and2 (and2 z)) fun vs qs H2 w2 W2 ext rel2 s rp _ hlen o2 => ?_⟩
  have hrp : Rp g w2 H2 (.ref a) (.obj n) := .obj (ext.kO n a ha)
  refine ⟨by rw [← hl, ← hlen]; rfl, w2, W2, .obj n :: qs, rel2.wk, .cons hrp rp, ?_⟩
  cases q : fn (.obj n :: qs) W2 with
  | bad => rw [q] at o2; exact o2
  | ok r W' =>
    rw [q] at o2
    exact fun v H' w' e' wk' s' nb rr => o2 v H' w' e' (fun z => s' (and1 z)) (rel2.next e' wk' (e'.tr wk') fun z => s' (hpu z)) rr
  | exc cc W' =>
    rw [q] at o2
    exact fun hc H' w' e' wk' s' => o2 hc H' w' e' (rel2.next e' wk' (e'.tr wk') fun z => s' (hpu z))
/-- a new instance stands -/
theorem WOk.new {w : Wd} {W : Om} {H : Hp} (wk : WOk g w W H) {c : Nat} {y dx : Addr} (hc : c < g.nc) (hy : H y = none) (hd : H dx = none) (hne : dx ≠ y) :
    Ext w H ⟨w.ob ++ [y], w.F, fun b => b = y ∨ w.G b⟩ (upd (upd H dx (.own y)) y (.ins (g.cc c) dx [])) ∧ WOk g ⟨w.ob ++ [y], w.F, fun b => b = y ∨ w.G b⟩ (W ++ [⟨c, []⟩]) (upd (upd H dx (.own y)) y (.ins (g.cc c) dx [])) := by
  have keep : ∀ b o, H b = some o → upd (upd H dx (.own y)) y (.ins (g.cc c) dx []) b = some o := fun b o e => upd_keep (by rw [upd_ne hne.symm]; exact hy) (upd_keep hd e)
  have keepG : ∀ b, w.G b → upd (upd H dx (.own y)) y (.ins (g.cc c) dx []) b = H b := fun b z => by
    obtain ⟨o, e⟩ := wk.tr b z
    rw [keep b o e, e]
  have fz : Fz w H ⟨w.ob ++ [y], w.F, fun b => b = y ∨ w.G b⟩ (upd (upd H dx (.own y)) y (.ins (g.cc c) dx [])) := ⟨fun b f => ⟨f, keepG b (wk.FG b f)⟩, fun n a h => by rw [List.getElem?_append_left (List.getElem?_eq_some_iff.mp h).1]; exact h⟩
  have hyG : ¬ w.G y := wk.fresh hy
  have old : ∀ (n : Nat) (a : Addr), (w.ob ++ [y])[n]? = some a → w.ob[n]? = some a ∨ (n = w.ob.length ∧ a = y) := fun n a h => by
    by_cases hn : n < w.ob.length
    · rw [List.getElem?_append_left hn] at h; exact .inl h
    · rw [List.getElem?_append_right (by omega)] at h
      have h0 : n - w.ob.length = 0 := by
        have := (List.getElem?_eq_some_iff.mp h).1
        simp at this
        omega
      rw [h0] at h
      simp at h
      exact .inr ⟨by omega, h.symm⟩
  have back : ∀ n f b, OwnAt ⟨w.ob ++ [y], w.F, fun b => b = y ∨ w.G b⟩ (W ++ [⟨c, []⟩]) (upd (upd H dx (.own y)) y (.ins (g.cc c) dx [])) n f b → OwnAt w W H n f b := fun n f b ⟨a, o, C, d1, l, ct, h1, h2, h3, h4, h5⟩ => by
    rcases old n a h1 with hA | ⟨rfl, rfl⟩
    · have hlt : n < W.length := by rw [← wk.ol]; exact (List.getElem?_eq_some_iff.mp hA).1
      rw [List.getElem?_append_left hlt] at h2
      exact ⟨a, o, C, d1, l, ct, hA, h2, (keepG a (wk.obG hA).1).symm.trans h3, h4, h5⟩
    · rw [wk.ol, List.getElem?_append_right (Nat.le_refl _), Nat.sub_self] at h2
      simp at h2
      subst h2
      simp at h4
  refine ⟨⟨fun b f => ⟨f, keepG b (wk.FG b f)⟩, fun b z => .inr z, fun b o e ng => ⟨keep b o e, fun z => absurd z fun q => q.elim (fun z => by rw [z, hy] at e; cases e) ng⟩, fz.kO⟩, fun b f => .inr (wk.FG b f), fun b z => ?_, by simp [wk.ol], fun n m a h1 h2 => ?_, fun n a o h1 h2 => ?_, fun n f n' f' b h h' => wk.oc _ _ _ _ _ (back _ _ _ h) (back _ _ _ h')⟩
  · rcases z with rfl | z
    · exact ⟨_, upd_same⟩
    · obtain ⟨o, e⟩ := wk.tr b z
      exact ⟨o, keep b o e⟩
  · rcases old n a h1 with hA | ⟨rfl, rfl⟩
    · rcases old m a h2 with hB | ⟨rfl, rfl⟩
      · exact wk.oi n m a hA hB
      · exact absurd (wk.obG hA).1 hyG
    · rcases old m _ h2 with hB | ⟨rfl, _⟩
      · exact absurd (wk.obG hB).1 hyG
      · rfl
  · rcases old n a h1 with hA | ⟨rfl, rfl⟩
    · have hlt : n < W.length := by rw [← wk.ol]; exact (List.getElem?_eq_some_iff.mp hA).1
      rw [List.getElem?_append_left hlt] at h2
      obtain ⟨h3, h4, h5, h6, d1, l, h7, h8⟩ := wk.og n a o hA h2
      refine ⟨h3, h4, .inr h5, h6, d1, l, (keepG a h5).trans h7, h8.all h4 fun x s v _ _ h => ?_⟩
      cases s with
      | un => exact h
      | val q => exact Rp.fz fz h
      | own ct =>
        obtain ⟨b, rfl, h9, h10, h11⟩ := h
        exact ⟨b, rfl, .inr h9, h10, h11.fz fz (keepG b h9)⟩
    · rw [wk.ol, List.getElem?_append_right (Nat.le_refl _), Nat.sub_self] at h2
      simp at h2
      subst h2
      exact ⟨hc, by simp, .inl rfl, fun z => hyG (wk.FG _ z), dx, [], upd_same, .nil⟩
theorem new_imp {c : Nat} {fn : Fn} {pu : Bool} {n0 : Nat} (hc : c < g.nc) (hl : fs.length + 1 = n0) (hpf : pf = false) :
    ∀ σ H Q, tE g pf Wx false (evMk fn c fs) σ H Q → tNewO (g.cc c) (spF g fn pu n0) (fun σ => WE Wx σ) (tAr g pf Wx p fs) σ H Q := fun σ H Q ⟨w0, H0, w, env, W, rel, o⟩ => by
  unfold evMk at o
  refine ⟨w0, H0, w, env, W, rel, plain_args (P := false) (K := fun vs W1 => (fn (.obj W1.length :: vs) (W1 ++ [⟨c, []⟩])).bind (unO W1.length)) o rel (fun z => by cases z) fun vs qs H1 w1 W1 ext rel1 s rp _ hlen o1 => ?_⟩
  intro y dx hy hd hne
  obtain ⟨ex, wk2⟩ := rel1.wk.new hc hy hd hne
  refine ⟨by rw [← hl, ← hlen]; rfl, _, _, .obj W1.length :: qs, wk2, .cons (.obj ?_) (rp.mono ex), ?_⟩
  · show (w1.ob ++ [y])[W1.length]? = some y
    rw [← rel1.wk.ol, List.getElem?_append_right (Nat.le_refl _), Nat.sub_self]
    rfl
  · have hob : (w1.ob ++ [y])[W1.length]? = some y := by
      rw [← rel1.wk.ol, List.getElem?_append_right (Nat.le_refl _), Nat.sub_self]
      rfl
    cases q : fn (.obj W1.length :: qs) (W1 ++ [⟨c, []⟩]) with
    | bad => rw [q] at o1; exact o1
    | ok r W' =>
      rw [q] at o1
      intro v H' w' e' wk' s' nb rr
      cases r with
      | bor c => exact o1.elim
      | fre c => exact o1.elim
      | val pv =>
        cases pv with
        | non =>
          cases rr
          refine ⟨rfl, o1 (.ref y) H' w' (ex.trans e') (fun z => by cases z) (rel1.next (ex.trans e') wk' ((ex.trans e').tr wk') fun z => by rw [hpf] at z; cases z) (.obj (e'.kO _ _ hob))⟩
        | _ => exact o1.elim
    | exc cc W' =>
      rw [q] at o1
      exact fun hc H' w' e' wk' s' => o1 hc H' w' (ex.trans e') (rel1.next (ex.trans e') wk' ((ex.trans e').tr wk') fun z => by rw [hpf] at z; cases z)
end
end D
namespace D
open PySem PySem.Spec PyProof.Rows L2
theorem met_eq {o : Expr} {m : Str} {apos pos : Pos} {args : List Expr} {env : Env} (hb : attributeBase o m env (eval o env) = eval o env) (hfew : methodCallForm (args.length + ([] : List Keyword).length) (backTo pos (starEach args env)) (backToKw pos (keywordEach [] env)) = true) (hline : (apos.endLine == pos.line) = true) :
    eval (.Call (.Attribute o m apos) args [] pos) env = (do let ov ← eval o env; standAt apos.atName; let (f, first) ← holding [ov] (getMethod ov m (do return (← importBound o env).getD true)); callWith pos f first (backTo pos (starEach args env)) (backToKw pos (keywordEach [] env))) := by
  have hpos : methodCallPos true o env apos pos = pure pos := by unfold methodCallPos; simp [hline]
  rw [arm_eval_Call, hb]
  unfold methodCall
  rw [hfew, hpos]
  simp only [calleeOf, if_true, pure_bind]
end D
namespace D
open PySem PySem.Spec PyProof.Rows L2
section
variable {X : Cx} {g : Gx} {pf p pa pu : Bool} {Wx : WX} {fa : F} {fs : List F} {o : Expr} {es : List Expr} {pos apos p2 : Pos} {k : Nat} {fd : FuncData} {ps : List Str} {m x : Str} {at' : Addr} {fn : Fn} {c : Nat}
theorem tE_mono {f : F} {σ : L2.St} {H : Hp} {Q Q' : VK} (q : ∀ v H', Q v H' → Q' v H') (h : tE g pf Wx p f σ H Q) : tE g pf Wx p f σ H Q' := by
  obtain ⟨w0, H0, w, env, W, rel, o⟩ := h
  refine ⟨w0, H0, w, env, W, rel, ?_⟩
  cases z : f env W with
  | bad => rw [z] at o; exact o
  | exc c W1 => rw [z] at o; exact o
  | ok r W1 => rw [z] at o; exact fun v H' w' e s r rr => q v H' (o v H' w' e s r rr)
theorem tAr_nil {σ : L2.St} {H : Hp} {Q : List V → Hp → Prop} (h : tAr g pf Wx p [] σ H Q) : Q [] H := by
  obtain ⟨w0, H0, w, env, W, rel, o⟩ := h
  exact o [] H w (Ext.refl w H) (fun _ => Same.refl H) rel (fun _ => .nil) rfl
theorem s_met (F : FnOk X.prog X.w X.K X.mg X.base (L2.CX X.prog X.w) k at' fd ps (spF g fn pu ps.length)) (hr : Room k X.A) (cl : Cls X.K (g.cc c)) (hm : Meth X.K (g.cc c) m at') (hb : Binds X.K fd ps []) (tk : Takes X Wx) (hl : fs.length + 1 = ps.length) (hpu : pf = true → pu = true)
    (ho : PE X o (tE g pf Wx pa fa)) (hbase : noCall0 o = true) (hline : (apos.endLine == pos.line) = true) (h20 : es.length < 20) (h : PEs X g pf Wx es fs p) : PE X (.Call (.Attribute o m apos) es [] pos) (tE g pf Wx (pu && (pa && p)) (evMc fn c m fa fs)) := by
  have hfew : methodCallForm (es.length + ([] : List Keyword).length) (backTo pos (starEach es X.env)) (backToKw pos (keywordEach [] X.env)) = true := by
    show ((backTo pos (starEach es X.env)).all (fun x => !x.1) && (backToKw pos (keywordEach [] X.env)).all (fun x => x.1.isSome) && decide (es.length + ([] : List Keyword).length + (if (backToKw pos (keywordEach [] X.env)).isEmpty then 0 else 1) < 30)) = true
    rw [h.flags]
    have : (backToKw pos (keywordEach [] X.env)) = [] := rfl
    rw [this]
    simp only [Bool.true_and, List.length_nil, List.isEmpty_nil, if_true, Bool.and_eq_true, decide_eq_true_eq, List.all_nil]
    omega
  have eq := met_eq (m := m) (noCall0_ok hbase m X.env (eval o X.env)) hfew hline
  have imp := met_imp (g := g) (pf := pf) (p := p) (Wx := Wx) (fa := fa) (fs := fs) (c := c) (m := m) (fn := fn) (pa := pa) trivial hl hpu
  cases h with
  | nil =>
    exact (pe_metO0 ho cl hm F hr hb (fun σ => passAt tk σ) eq).imp fun σ H Q z => by
      obtain ⟨w0, H0, w, env, W, rel, oo⟩ := z
      exact tE_mono (fun y H1 ⟨a, dx, l, e1, e2, e3, q⟩ => ⟨a, dx, l, e1, e2, e3, tAr_nil q⟩) (imp σ H Q ⟨w0, H0, w, env, W, rel, oo⟩)
  | cons a b s t => exact (pe_metO ho cl hm F hr hb (fun σ => passAt tk σ) (PEs.cons a b s t).args s t.plain eq).imp imp
theorem s_mk (F : FnOk X.prog X.w X.K X.mg X.base (L2.CX X.prog X.w) k at' fd ps (spF g fn pu ps.length)) (hr : Room (k + 1) X.A) (hc : c < g.nc) (M : Mk X.K (g.cc c) at') (hg : Gl X x) (hm : X.mg x = some (.ref (g.cc c))) (hd : (x == ("__debug__" : Str)) = false) (hb : Binds X.K fd ps []) (tk : Takes X Wx) (hl : fs.length + 1 = ps.length) (hpf : pf = false)
    {e : Expr} (h : PEs X g pf Wx (e :: es) fs p) : PE X (.Call (.Name x p2) (e :: es) [] pos) (tE g pf Wx false (evMk fn c fs)) := by
  have imp := new_imp (g := g) (pf := pf) (p := p) (Wx := Wx) (fs := fs) (c := c) (fn := fn) (pu := pu) hc hl hpf
  cases h with
  | cons a b s t => exact (pe_newO M F hr hg hm hb (fun σ => passAt tk σ) (PEs.cons a b s t).args hd s t.plain).imp imp
end
end D

/-! D10E: enumerate(tuple). -/
namespace D
open PySem PySem.Spec PyProof.Rows L2
/-- the tuple at a, each item in a new pair with its number -/
def EnT (K : PySem.W.Frag) (a : Addr) : It :=
  ⟨fun i H => ∃ (l : List V) (z : V), SqT K H a l ∧ l[i]? = some z, fun i H v H2 => ∃ (T : Addr) (z : V), v = V.ref T ∧ H T = none ∧ H2 = upd H T (.tup [.int (i : Nat), z]) ∧ ∀ l, SqT K H a l → l[i]? = some z, fun i H => ∃ l : List V, SqT K H a l ∧ l.length ≤ i⟩
theorem turn_enT {P : Program} {u : World} {K : PySem.W.Frag} {els : List Expr} {j : Nat} {tp : Pos} (a e it : Addr) :
    Turn P u K (.Tuple els j tp) (EnT K a) [e, it] e (fun i h => ((∃ z, IsEnum h e it ((i : Nat) : Int) z) ∧ e ≠ it) ∧ h.IsTupleIter it a i) where
  mem := List.mem_cons_self
  obj := fun i h st b hb => by
    obtain ⟨⟨⟨z, he⟩, _⟩, o, h1, _, h3⟩ := st
    rcases (by simpa using hb : b = e ∨ b = it) with q | q
    · subst q; exact ⟨_, he, fun v y => nomatch y⟩
    · subst q; exact ⟨o, h1, fun v y => by rw [h3] at y; cases y⟩
  keep := fun i h h2 st k => ⟨⟨st.1.1.elim fun z he => ⟨z, k e (by simp) _ he⟩, st.1.2⟩, st.2.at fun o q => k it (by simp) o q⟩
  item := by
    intro X hP hw hK hc i pins s σ H E I hf st hg
    subst hP hw hK
    obtain ⟨⟨⟨z0, he⟩, hne⟩, hit⟩ := st
    obtain ⟨l, z, hq, hz⟩ := hg
    obtain ⟨its, rv, pt, hsz⟩ := I.tuple hq
    obtain ⟨v, hv, rz⟩ := rv.get hz
    have le : e < s.heap.objs.size := Heap.lt_size he
    have li : it < s.heap.objs.size := hit.elim fun _ q => Heap.lt_size q.1
    have na : a ≠ it := fun q => by
      obtain ⟨o1, h1, c1, _⟩ := hit
      obtain ⟨o2, h2, c2, _⟩ := (show s.heap.IsTuple a its.toArray from pt)
      rw [q, h1] at h2
      cases h2
      rw [c1] at c2
      exact absurd (Value.type.inj c2) (by decide)
    have nea : e ≠ a := fun q => by
      obtain ⟨o2, h2, c2, _⟩ := (show s.heap.IsTuple a its.toArray from pt)
      rw [← q, he] at h2
      cases h2
      exact absurd (Value.type.inj c2) (by decide)
    have dr := Draws.tuple (prog := X.prog) (w := X.w) (A := X.A.in1) (I.ok.hd hc) it a na its.toArray
    have lt : i < its.toArray.size := by
      have := (List.getElem?_eq_some_iff.mp hv).1
      simpa using this
    refine wpAny_pyNext_enum_itemD dr he ⟨hit, pt⟩ lt hne (by simp [hne, nea]) fun x h1 tk hx out st1 tup1 sz1 k1 => ?_
    obtain rfl : x = v := by
      have h2 : its.toArray[i]? = some v := by simpa using hv
      rw [h2] at hx
      exact (Option.some.inj hx).symm
    refine ⟨_, rfl, wpAny_letOwnedTupleGo_enum (s := { s with heap := h1, toks := tk + 1 }) out fun h2 he2 sb => ?_⟩
    have old : h2.get? s.heap.objs.size = some { cls := .type "tuple", data := .seq #[.int i tk, x] } := (sb.2 _ (Nat.ne_of_gt le)).trans tup1
    have new : ObjOk X.prog X.w (upd H s.heap.objs.size (.tup [.int (i : Nat), z])) h2 s.heap.objs.size (.tup [.int (i : Nat), z]) :=
      ⟨by show 2 ≤ sizeLine; decide, [.int i tk, x], .cons ⟨_, rfl⟩ (.cons rz .nil), ⟨_, old, rfl, _, rfl⟩⟩
    have J : Inv X pins σ (upd H s.heap.objs.size (.tup [.int (i : Nat), z])) { s with heap := h2, toks := tk + 1 } :=
      I.turnedNew (ch := [e, it]) (fun b o hb q => (sb.2 b (fun y => hb (by simp [y]))).trans (k1 b o (fun y => hb (by simp [y])) (fun y => hb (by simp [y])) q)) hf (Nat.le_refl _) new
    refine ⟨.ref s.heap.objs.size, _, J, rfl, ⟨_, z, rfl, I.hok.fresh (Nat.le_refl _), rfl, fun l2 h3 => by rw [I.tuple_inj h3 hq]; exact hz⟩, ⟨⟨⟨x, ?_⟩, hne⟩, st1.1.at fun o q => (sb.2 it (Ne.symm hne)).trans q⟩, fun b hb => ?_⟩
    · rw [show ((i + 1 : Nat) : Int) = (i : Int) + 1 from by omega]
      exact he2
    · have lb : b < s.heap.objs.size := by
        rcases (by simpa using hb : b = e ∨ b = it) with q | q <;> rw [q] <;> assumption
      rw [upd_ne (Nat.ne_of_lt lb)]
      exact (hf b hb).1
  done := by
    intro X hP hw hK hc i pins s σ H E I hf st hg
    subst hP hw hK
    obtain ⟨⟨⟨z0, he⟩, hne⟩, hit⟩ := st
    obtain ⟨l, hq, hl⟩ := hg
    obtain ⟨its, rv, pt, hsz⟩ := I.tuple hq
    obtain ⟨q0, q1, q2, q3, q4, q5⟩ := hf it (by simp)
    have na : a ≠ it := fun q => by
      obtain ⟨o1, h1, c1, _⟩ := hit
      obtain ⟨o2, h2, c2, _⟩ := (show s.heap.IsTuple a its.toArray from pt)
      rw [q, h1] at h2
      cases h2
      rw [c1] at c2
      exact absurd (Value.type.inj c2) (by decide)
    have none : its.toArray[i]? = none := by
      have := rv.length
      exact Array.getElem?_eq_none (by simp; omega)
    have dr : Draws X.prog X.w X.A.in1 it [it, a] 0 (fun _ _ => False) (fun _ h => h.IsTupleIter it a i ∧ h.IsTuple a its.toArray) :=
      ⟨fun _ _ st => st.1.elim fun o q => ⟨o, q.1⟩, fun _ _ _ st k => ⟨st.1.at fun o q => k it (by simp) o q, st.2.at fun o q => k a (by simp) o q⟩, fun j _ _ _ hj => absurd hj (Nat.not_lt_zero j), fun s2 Q E2 st hE => wpAny_nextOf_tuple_end (I.ok.hd hc) st.1 st.2 none hE⟩
    exact wpAny_pyNext_enum_endD dr he ⟨hit, pt⟩ fun h2 eb => ⟨rfl, I.turned (t' := s.toks) (fun b o hb q => eb b o hb q) q0 q1 q3 q4 q5⟩
  self := fun _ _ _ _ _ st hh => st.1.1.elim fun z he => wpAny_pyIter_enum he hh
theorem enum_newT (t : Addr) (items : Array Value) :
    Meets (Builtin.«enumerate.__new__» ⟨[.type "enumerate", .ref t], []⟩) (fun _ R s => s.heap.IsTuple t items ∧
      R (.ok (.ret (.ref (s.heap.push { cls := .type "tuple_iterator", data := .fields #[.ref t, .int 0 0] }).objs.size))) { s with heap := (s.heap.push { cls := .type "tuple_iterator", data := .fields #[.ref t, .int 0 0] }).push { cls := .type "enumerate", data := .fields #[.none, .bool false, .ref s.heap.objs.size, rawInt 0, .none, .none] } }) :=
  .of_wp fun prog w A R s h => by
    obtain ⟨hp, gs, ds, tk, os⟩ := s
    obtain ⟨h1, h⟩ := h
    have hs := sub_enumerate
    have it : ∀ {A' : Around} {E : Value → Shared → Prop} {Q : Value → Shared → Prop}, Q (.ref hp.objs.size) ⟨hp.push { cls := .type "tuple_iterator", data := .fields #[.ref t, .int 0 0] }, gs, ds, tk, os⟩ → wpAny (model prog w) A' (pyIter (.ref t)) Q E ⟨hp, gs, ds, tk, os⟩ :=
      fun q => (begins_tuple t items).iter prog w _ _ ⟨hp, gs, ds, tk, os⟩ _ h1 q
    wp_walk using it
    refine wpAny_stack_any fun st => wpAny_pure ?_
    split
    · rename_i c _ _ _ _ _
      cases (c == Value.type "enumerate") <;> (wp_walk using it; exact ⟨_, rfl, h⟩)
    · wp_walk using it
      exact ⟨_, rfl, h⟩
theorem call_enumT {prog : Program} {w : World} {A : Around} {E : Value → Shared → Prop} {s : Shared} {t : Addr} {items : Array Value} {Q : Value → Shared → Prop} (hT : s.heap.IsTuple t items)
    (h : ∀ h2, IsEnum h2 (s.heap.objs.size + 1) s.heap.objs.size 0 .none → h2.IsTupleIter s.heap.objs.size t 0 → (∀ b o, s.heap.get? b = some o → h2.get? b = some o) → Q (.ref (s.heap.objs.size + 1)) { s with heap := h2 }) :
    wpAny (model prog w) A (call (.type "enumerate") [.ref t]) Q E s := by
  refine callType_new F.called_enumerate (by decide) (F.typeCall_enumerate_1 _) (F.newCall_enumerate_1 _) (fun obj => F.args_object_init_2 obj _) F.entry_enumerate_new (enum_newT t items) ⟨hT, ?_⟩
  have hz : (s.heap.push { cls := .type "tuple_iterator", data := .fields #[.ref t, .int 0 0] }).objs.size = s.heap.objs.size + 1 := Heap.size_push ..
  show _ ∧ _
  rw [hz]
  have he : IsEnum ((s.heap.push { cls := .type "tuple_iterator", data := .fields #[.ref t, .int 0 0] }).push { cls := .type "enumerate", data := .fields #[.none, .bool false, .ref s.heap.objs.size, rawInt 0, .none, .none] }) (s.heap.objs.size + 1) s.heap.objs.size 0 .none := by
    have q := Heap.get?_push_size (s.heap.push { cls := .type "tuple_iterator", data := .fields #[.ref t, .int 0 0] }) (o := { cls := .type "enumerate", data := .fields #[.none, .bool false, .ref s.heap.objs.size, rawInt 0, .none, .none] }) rfl
    rw [hz] at q
    exact q
  exact ⟨⟨_, he, rfl⟩, h _ he ⟨_, Heap.get?_push_of_some _ (Heap.get?_push_size _ rfl), rfl, rfl⟩ fun b o x => Heap.get?_push_of_some _ (Heap.get?_push_of_some _ x)⟩
def iEnX (K : PySem.W.Frag) (ta : TA) : TI := fun σ H R => ta σ H fun vs H1 => ∃ a : Addr, vs = [V.ref a] ∧ ((∃ l : List V, SqL K H1 a l ∧ R (Ite K a) H1) ∨ ∃ l : List V, SqT K H1 a l ∧ R (EnT K a) H1)
theorem pi_enX {X : Cx} {e : Expr} {ta : TA} {p1 p2 p3 : Pos} {els : List Expr} {j : Nat} (hg : Gl X "enumerate") (hm : X.mg "enumerate" = none) (ha : PA X [e] ta) (hs : starEach [e] X.env = [(false, eval e X.env)]) :
    PI X (.Tuple els j p3) (.Call (.Name "enumerate" p1) [e] [] p2) (iEnX X.K ta) := by
  refine ⟨fun pins s σ H R I h => Call_ (ld_blt I hg hm boot_enumerate (PyProof.Rows.callWith_type1 (thn (ha.run p2 pins s σ H _ I h) fun us s1 ⟨vs, H1, I1, r1, a, ev, hq⟩ => ?_) hs rfl))⟩
  subst ev
  obtain ⟨u, rfl, ru⟩ := L2.Vals.one r1
  cases ru
  have fp : ∀ b ∈ [s1.heap.objs.size + 1, s1.heap.objs.size], FpOk X pins H1 b := fun b hb => by
    have lb : s1.heap.objs.size ≤ b := by
      rcases (by simpa using hb : b = s1.heap.objs.size + 1 ∨ b = s1.heap.objs.size) with y | y <;> rw [y]
      · exact Nat.le_succ _
      · exact Nat.le_refl _
    exact I1.fpOk lb (I1.hok.fresh lb)
  rcases hq with ⟨l, hq, q⟩ | ⟨l, hq, q⟩
  · obtain ⟨its, rv, pt, hz⟩ := I1.list hq
    refine call_enumerate_list pt.isList fun h2 he hit _ k => wpAny_pyIter_enum he ?_
    exact ⟨s1.heap.objs.size + 1, [s1.heap.objs.size + 1, s1.heap.objs.size], _, _, H1, rfl, I1.kept (t' := s1.toks) k, turn_enum a (s1.heap.objs.size + 1) s1.heap.objs.size, ⟨⟨.none, he⟩, hit, Nat.succ_ne_self _⟩, fp, q⟩
  · obtain ⟨its, rv, pt, hz⟩ := I1.tuple hq
    refine call_enumT (show s1.heap.IsTuple a its.toArray from pt) fun h2 he hit k => wpAny_pyIter_enum he ?_
    exact ⟨s1.heap.objs.size + 1, [s1.heap.objs.size + 1, s1.heap.objs.size], _, _, H1, rfl, I1.kept (t' := s1.toks) k, turn_enT a (s1.heap.objs.size + 1) s1.heap.objs.size, ⟨⟨⟨.none, he⟩, Nat.succ_ne_self _⟩, hit⟩, fp, q⟩
end D

/-! D10Z: zip of a list and a tuple. -/
namespace D
open PySem PySem.Spec PyProof.Rows L2
def SqB (l : Bool) (K : PySem.W.Frag) (H : Hp) (a : Addr) (xs : List V) : Prop := match l with
  | true => SqL K H a xs
  | false => SqT K H a xs
def itX (l : Bool) (h : Heap) (it a : Addr) (i : Nat) : Prop := match l with
  | true => h.IsListIter it a i
  | false => h.IsTupleIter it a i
def isX (l : Bool) (h : Heap) (a : Addr) (its : Array Value) : Prop := match l with
  | true => h.IsList a its
  | false => h.IsTuple a its
def itOb (l : Bool) (a : Addr) : Obj := match l with
  | true => { cls := .type "list_iterator", data := .fields #[.ref a, .int 0 0] }
  | false => { cls := .type "tuple_iterator", data := .fields #[.ref a, .int 0 0] }
section
variable {X : Cx} {pins : List (Addr × Obj)} {σ : L2.St} {H : Hp} {s : Shared} {l : Bool} {a it : Addr} {xs ys : List V} {its : Array Value} {i : Nat} {h h' : Heap}
theorem itX.at (x : itX l h it a i) (k : ∀ o, h.get? it = some o → h'.get? it = some o) : itX l h' it a i := by
  cases l with
  | true => exact Heap.IsListIter.at x k
  | false => exact Heap.IsTupleIter.at x k
theorem isX.at (x : isX l h a its) (k : ∀ o, h.get? a = some o → h'.get? a = some o) : isX l h' a its := by
  cases l with
  | true => exact Heap.IsList.at x k
  | false => exact Heap.IsTuple.at x k
theorem itX.ob (x : itX l h it a i) : ∃ o, h.get? it = some o ∧ o.data = .fields #[.ref a, .int i 0] ∧ o.cls = (itOb l a).cls := by
  cases l with
  | true => exact x.elim fun o q => ⟨o, q.1, q.2.2, q.2.1⟩
  | false => exact x.elim fun o q => ⟨o, q.1, q.2.2, q.2.1⟩
theorem isX.ob (x : isX l h a its) : ∃ o n, h.get? a = some o ∧ o.data = .seq its n := by
  cases l with
  | true => exact x.elim fun o q => q.2.2.elim fun n e => ⟨o, n, q.1, e⟩
  | false => exact x.elim fun o q => q.2.2.elim fun n e => ⟨o, n, q.1, e⟩
theorem isX_ne {l' : Bool} {b : Addr} {j : Nat} (x : isX l h a its) (y : itX l' h it b j) : a ≠ it := fun e => by
  obtain ⟨o, n, h1, h2⟩ := x.ob
  obtain ⟨o', h3, h4, _⟩ := y.ob
  rw [e, h3] at h1
  cases h1
  rw [h4] at h2
  cases h2
theorem sqB_arr (I : Inv X pins σ H s) (q : SqB l X.K H a xs) : ∃ its : Array Value, Vals xs its.toList ∧ isX l s.heap a its := by
  cases l with
  | true =>
    obtain ⟨its, rv, p, _⟩ := I.list q
    exact ⟨its.toArray, by simpa using rv, p.isList⟩
  | false =>
    obtain ⟨its, rv, p, _⟩ := I.tuple q
    exact ⟨its.toArray, by simpa using rv, p⟩
theorem sqB_inj (I : Inv X pins σ H s) (q : SqB l X.K H a xs) (q2 : SqB l X.K H a ys) : xs = ys := by
  cases l with
  | true => exact I.list_inj q q2
  | false => exact I.tuple_inj q q2
theorem drawX {P : Program} {w : World} {A : Around} (hh : A.handled = none) (l : Bool) (it a : Addr) (hne : a ≠ it) (its : Array Value) : Draws P w A it [it, a] its.size (fun i v => its[i]? = some v) (fun i h => itX l h it a i ∧ isX l h a its) := by
  cases l with
  | true => exact Draws.list hh it a hne its
  | false => exact Draws.tuple hh it a hne its
theorem endX {P : Program} {w : World} {A : Around} (hh : A.handled = none) (l : Bool) (it a : Addr) (hne : a ≠ it) (its : Array Value) (i : Nat) : ∃ (n : Nat) (R : Nat → Value → Prop) (St : Nat → Heap → Prop), Draws P w A it [it, a] n R St ∧ (∀ h, itX l h it a i → isX l h a its → St i h) ∧ i ≤ n ∧ (its.size ≤ i → i = n) := by
  by_cases e : its.size ≤ i
  · have none : its[i]? = none := Array.getElem?_eq_none e
    refine ⟨i, fun _ _ => False, fun j h => j = i ∧ itX l h it a i ∧ isX l h a its, ⟨fun _ _ st => st.2.1.ob.elim fun o q => ⟨o, q.1⟩, fun _ _ _ st k => ⟨st.1, st.2.1.at fun o q => k it (by simp) o q, st.2.2.at fun o q => k a (by simp) o q⟩, fun j _ _ _ hj st => absurd st.1 (Nat.ne_of_lt hj), fun s2 Q E2 st hE => ?_⟩, fun h x y => ⟨rfl, x, y⟩, Nat.le_refl _, fun _ => rfl⟩
    cases l with
    | true => exact wpAny_nextOf_list_end hh st.2.1 st.2.2 none hE
    | false => exact wpAny_nextOf_tuple_end hh st.2.1 st.2.2 none hE
  · exact ⟨its.size, _, _, drawX hh l it a hne its, fun h x y => ⟨x, y⟩, by omega, fun z => absurd z e⟩
end
/-- the sequences at a and b as they stand at each turn, the items in new pairs -/
def ItzM (l r : Bool) (K : PySem.W.Frag) (a b : Addr) : It :=
  ⟨fun i H => ∃ (xs ys : List V) (x y : V), SqB l K H a xs ∧ SqB r K H b ys ∧ xs[i]? = some x ∧ ys[i]? = some y,
    fun i H v H' => ∃ T x y, v = .ref T ∧ H T = none ∧ H' = upd H T (.tup [x, y]) ∧ (∀ xs, SqB l K H a xs → xs[i]? = some x) ∧ ∀ ys, SqB r K H b ys → ys[i]? = some y,
    fun i H => ∃ xs ys : List V, SqB l K H a xs ∧ SqB r K H b ys ∧ (xs.length ≤ i ∨ ys.length ≤ i)⟩
theorem turn_zipM {P : Program} {w : World} {K : PySem.W.Frag} {elts : List Expr} {kk : Nat} {tpos : Pos} {l r : Bool} {a b z TI TO i1 i2 : Addr} (D : ZipSep2 z TI TO i1 i2 [i1, a] [i2, b]) :
    Turn P w K (.Tuple elts kk tpos) (ItzM l r K a b) [z, TI, TO, i1, i2] z (fun i h => IsZip h z TI TO .none ∧ IsPair h TI (.ref i1) (.ref i2) ∧ (∃ x y, IsPair h TO x y) ∧ itX l h i1 a i ∧ itX r h i2 b i) where
  mem := by simp
  obj := fun i h st c hc => by
    obtain ⟨hz, hTI, ⟨x, y, hTO⟩, h1, h2⟩ := st
    obtain ⟨o1, e1, d1, _⟩ := h1.ob
    obtain ⟨o2, e2, d2, _⟩ := h2.ob
    have e' : c = z ∨ c = TI ∨ c = TO ∨ c = i1 ∨ c = i2 := by simpa using hc
    rcases e' with q | q | q | q | q
    · rw [q]; exact ⟨_, hz, fun v q => nomatch q⟩
    · rw [q]; exact ⟨_, hTI, fun v q => nomatch q⟩
    · rw [q]; exact ⟨_, hTO, fun v q => nomatch q⟩
    · rw [q]; exact ⟨o1, e1, fun v q => by rw [d1] at q; cases q⟩
    · rw [q]; exact ⟨o2, e2, fun v q => by rw [d2] at q; cases q⟩
  keep := fun i h h' st k => by
    obtain ⟨hz, hTI, ⟨x, y, hTO⟩, h1, h2⟩ := st
    exact ⟨k z (by simp) _ hz, k TI (by simp) _ hTI, ⟨x, y, k TO (by simp) _ hTO⟩, h1.at fun o q => k i1 (by simp) o q, h2.at fun o q => k i2 (by simp) o q⟩
  item := by
    intro X hP hw hK hc i pins s σ H E I hf st hg
    subst hP hw hK
    obtain ⟨hz, hTI, ⟨x0, y0, hTO⟩, h1, h2⟩ := st
    obtain ⟨xs, ys, x, y, hqx, hqy, hx, hy⟩ := hg
    obtain ⟨its, rv, p⟩ := sqB_arr I hqx
    obtain ⟨its2, rv2, p2⟩ := sqB_arr I hqy
    obtain ⟨u, hu, ru⟩ := rv.get hx
    obtain ⟨u2, hu2, ru2⟩ := rv2.get hy
    have hu : its[i]? = some u := by simpa using hu
    have hu2 : its2[i]? = some u2 := by simpa using hu2
    have hzl : z < s.heap.objs.size := Heap.lt_size hz
    have hh := I.ok.hd hc
    have d1 := drawX (P := X.prog) (w := X.w) (A := X.A.in1) hh l i1 a (isX_ne p h1) its
    have d2 := drawX (P := X.prog) (w := X.w) (A := X.A.in1) hh r i2 b (isX_ne p2 h2) its2
    have lt1 : i < its.size := (Array.getElem?_eq_some_iff.mp hu).1
    have lt2 : i < its2.size := (Array.getElem?_eq_some_iff.mp hu2).1
    refine wpAny_pyNext_zipD2_item D d1 d2 hz hTI hTO ⟨h1, p⟩ ⟨h2, p2⟩ lt1 lt2 fun x1 x2 h' tk hx1 hx2 z' TO' h1' h2' hT hsz hk => ?_
    rw [hu] at hx1
    rw [hu2] at hx2
    cases hx1
    cases hx2
    refine ⟨_, rfl, wpAny_letOwnedTupleGo_zip (s := { s with heap := h', toks := tk }) z' fun h'' z'' sb => ?_⟩
    have hT2 : h''.get? s.heap.objs.size = some { cls := .type "tuple", data := .seq #[u, u2] } := (sb.2 _ (Nat.ne_of_gt hzl)).trans hT
    have new : ObjOk X.prog X.w (upd H s.heap.objs.size (.tup [x, y])) h'' s.heap.objs.size (.tup [x, y]) :=
      ⟨by show 2 ≤ sizeLine; decide, [u, u2], .cons ru (.cons ru2 .nil), ⟨_, hT2, rfl, _, rfl⟩⟩
    have I1 : Inv X pins σ (upd H s.heap.objs.size (.tup [x, y])) { s with heap := h'', toks := tk } :=
      I.turnedNew (t' := tk) (ch := [z, TI, TO, i1, i2]) (fun c o hb q => (sb.2 c (fun q' => hb (by simp [q']))).trans (hk c o (fun q' => hb (by simp [q'])) (fun q' => hb (by simp [q'])) (fun q' => hb (by simp [q'])) (fun q' => hb (by simp [q'])) q)) hf (Nat.le_refl _) new
    refine ⟨.ref s.heap.objs.size, _, I1, rfl, ⟨_, x, y, rfl, I.hok.fresh (Nat.le_refl _), rfl, fun l hl => by rw [sqB_inj I hl hqx]; exact hx, fun l hl => by rw [sqB_inj I hl hqy]; exact hy⟩, ⟨z'', ?_, ⟨u, u2, ?_⟩, ?_, ?_⟩, fun c hcm => ?_⟩
    · exact (sb.2 _ D.TIz).trans (hk _ _ D.TIz D.TITO D.TIi1 D.TIi2 hTI)
    · exact (sb.2 _ D.TOz).trans TO'
    · exact h1'.1.at fun o q => (sb.2 _ (Ne.symm D.zi1)).trans q
    · exact h2'.1.at fun o q => (sb.2 _ (Ne.symm D.zi2)).trans q
    · have hlt : c < s.heap.objs.size := by
        have e' : c = z ∨ c = TI ∨ c = TO ∨ c = i1 ∨ c = i2 := by simpa using hcm
        rcases e' with q | q | q | q | q
        · rw [q]; exact hzl
        · rw [q]; exact Heap.lt_size hTI
        · rw [q]; exact Heap.lt_size hTO
        · rw [q]; obtain ⟨_, e1, _⟩ := h1.ob; exact Heap.lt_size e1
        · rw [q]; obtain ⟨_, e2, _⟩ := h2.ob; exact Heap.lt_size e2
      rw [upd_ne (Nat.ne_of_lt hlt)]
      exact (hf c hcm).1
  done := by
    intro X hP hw hK hc i pins s σ H E I hf st hg
    subst hP hw hK
    obtain ⟨hz, hTI, ⟨x0, y0, hTO⟩, h1, h2⟩ := st
    obtain ⟨xs, ys, hqx, hqy, hend⟩ := hg
    obtain ⟨its, rv, p⟩ := sqB_arr I hqx
    obtain ⟨its2, rv2, p2⟩ := sqB_arr I hqy
    have l1 : xs.length = its.size := by simpa using rv.length
    have l2 : ys.length = its2.size := by simpa using rv2.length
    have hh := I.ok.hd hc
    obtain ⟨n1, R1, S1, d1, s1, b1, e1⟩ := endX (P := X.prog) (w := X.w) (A := X.A.in1) hh l i1 a (isX_ne p h1) its i
    obtain ⟨n2, R2, S2, d2, s2, b2, e2⟩ := endX (P := X.prog) (w := X.w) (A := X.A.in1) hh r i2 b (isX_ne p2 h2) its2 i
    refine wpAny_pyNext_zipD2_end D d1 d2 hz hTI hTO (s1 _ h1 p) (s2 _ h2 p2) b1 b2 ?_ fun h' tk hk => ⟨rfl, I.turnedL (t' := tk) (ch := [z, TI, TO, i1, i2]) (fun c o hb q =>
      hk c o (fun q' => hb (by simp [q'])) (fun q' => hb (by simp [q'])) (fun q' => hb (by simp [q'])) (fun q' => hb (by simp [q'])) q) hf⟩
    rcases hend with q | q
    · exact .inl (e1 (by omega))
    · exact .inr (e2 (by omega))
  self := fun A i s Q E st h => wpAny_pyIter_zip st.1 h
theorem begins_X (l : Bool) (a : Addr) (its : Array Value) : Begins (.ref a) (itOb l a) fun h => isX l h a its := by
  cases l with
  | true => exact begins_list a its
  | false => exact begins_tuple a its
theorem itX_new {l : Bool} {h : Heap} {it a : Addr} (e : h.get? it = some (itOb l a)) : itX l h it a 0 := by
  cases l with
  | true => exact ⟨_, e, rfl, rfl⟩
  | false => exact ⟨_, e, rfl, rfl⟩
def iZipM (K : PySem.W.Frag) (ta : TA) : TI := fun σ H R => ta σ H fun vs H1 => ∃ l r a b xs ys, vs = [.ref a, .ref b] ∧ SqB l K H1 a xs ∧ SqB r K H1 b ys ∧ R (ItzM l r K a b) H1
theorem pi_zipM {X : Cx} {e e2 : Expr} {ta : TA} {p pos tpos : Pos} {elts : List Expr} {kk : Nat} (hg : Gl X "zip") (hm : X.mg "zip" = none) (ha : PA X [e, e2] ta)
    (hs : starEach [e, e2] X.env = (false, eval e X.env) :: starEach [e2] X.env := by rfl) (hpl : (backTo pos (starEach [e2] X.env)).any (·.1) = false := by rfl) :
    PI X (.Tuple elts kk tpos) (.Call (.Name "zip" p) [e, e2] [] pos) (iZipM X.K ta) := by
  refine ⟨fun pins s σ H R I h => ?_⟩
  refine Call_ (ld_blt I hg hm PyProof.Rows.boot_zip (PyProof.Rows.callWith_type1 (thn (ha.run pos pins s σ H _ I h) fun us s1 ⟨vs, H1, I1, r1, q1⟩ => ?_) hs hpl))
  obtain ⟨l, r, a, b, xs, ys, ex, hqx, hqy, q⟩ := q1
  subst ex
  cases r1 with
  | cons r0 rr =>
    cases rr with
    | cons r' rr =>
      cases rr
      cases r0
      cases r'
      have fresh5 : ∀ c, c ∈ [s1.heap.objs.size + 4, s1.heap.objs.size + 2, s1.heap.objs.size + 3, s1.heap.objs.size, s1.heap.objs.size + 1] → FpOk X pins H1 c := fun c hcm => by
        have e' : c = s1.heap.objs.size + 4 ∨ c = s1.heap.objs.size + 2 ∨ c = s1.heap.objs.size + 3 ∨ c = s1.heap.objs.size ∨ c = s1.heap.objs.size + 1 := by simpa using hcm
        have hle : s1.heap.objs.size ≤ c := by
          rcases e' with z | z | z | z | z
          · rw [z]; exact Nat.le_add_right _ _
          · rw [z]; exact Nat.le_add_right _ _
          · rw [z]; exact Nat.le_add_right _ _
          · rw [z]; exact Nat.le_refl _
          · rw [z]; exact Nat.le_add_right _ _
        exact I1.fpOk hle (I1.hok.fresh hle)
      obtain ⟨its, rv, p1⟩ := sqB_arr I1 hqx
      obtain ⟨its2, rv2, p2⟩ := sqB_arr I1 hqy
      obtain ⟨o1, n1, ho1, _⟩ := p1.ob
      obtain ⟨o2, n2, ho2, _⟩ := p2.ob
      refine zip_begins2 (begins_X l a its) (begins_X r b its2) p1 p2 fun h' hz hTI hTO h1 h2 hsz hk => wpAny_pyIter_zip hz ?_
      have I2 : Inv X pins σ H1 { s1 with heap := h' } := I1.kept (t' := s1.toks) hk
      exact ⟨s1.heap.objs.size + 4, [s1.heap.objs.size + 4, s1.heap.objs.size + 2, s1.heap.objs.size + 3, s1.heap.objs.size, s1.heap.objs.size + 1], _, _, H1, rfl, I2, turn_zipM (zip_sep2 (fun c hc => by rw [List.mem_singleton.mp hc]; exact Heap.lt_size ho1) fun c hc => by rw [List.mem_singleton.mp hc]; exact Heap.lt_size ho2), ⟨hz, hTI, ⟨_, _, hTO⟩, itX_new h1, itX_new h2⟩, fresh5, q⟩
end D

/-! D10: what a loop walks. -/
namespace D
open PySem PySem.Spec PyProof.Rows L2

theorem rd_same {H H' : Hp} {a : Addr} {u : HO} (h : Rd H a u) (e : H' a = H a) : Rd H' a u := by
  unfold Rd at h ⊢
  rw [e]
  exact h
theorem rd_ex {H : Hp} {a : Addr} {u : HO} (h : Rd H a u) : ∃ o, H a = some o := by
  rcases h with h | ⟨o, h⟩
  · exact ⟨_, h⟩
  · exact ⟨_, h⟩
/-- a walk over plain items; src: the lists and tuples that are walked -/
structure Wk (g : Gx) (J : It) (src : List Addr) (items : List PV) (G : Wd → Hp → Prop) : Prop where
  stab : ∀ w H w' H', G w H → Fz w H w' H' → (∀ a ∈ src, H' a = H a) → G w' H'
  ex : ∀ w H, G w H → ∀ a ∈ src, ∃ o, H a = some o
  goes : ∀ i w H, i < items.length → G w H → J.go i H
  stops : ∀ w H, G w H → J.stop items.length H
  yields : ∀ i w H x H', i < items.length → G w H → J.yld i H x H' → ∃ p, items[i]? = some p ∧
    ((H' = H ∧ Rp g w H x p) ∨ ∃ T vs ps, x = .ref T ∧ H T = none ∧ H' = upd H T (.tup vs) ∧ Rps g w H vs ps ∧ p = .tup ps ∧ slk ps = false)
/-- plain, or (fr is false) only looked at -/
def LkF (g : Gx) (fr : Bool) (w : Wd) (H : Hp) (v : V) (p : PV) : Prop := Rp g w H v p ∨ (fr = false ∧ ∃ a c, v = .ref a ∧ p = c.pv ∧ CtOk g w H a c)
inductive LksF (g : Gx) (fr : Bool) (w : Wd) (H : Hp) : List V → List PV → Prop
  | nil : LksF g fr w H [] []
  | cons {v : V} {vs : List V} {x : PV} {xs : List PV} (r : LkF g fr w H v x) (t : LksF g fr w H vs xs) : LksF g fr w H (v :: vs) (x :: xs)
theorem Lks.f {g : Gx} {w : Wd} {H : Hp} : ∀ {vs : List V} {ps : List PV}, Lks g w H vs ps → LksF g false w H vs ps
  | _, _, .nil => .nil
  | _, _, .cons r t => .cons (r.imp id fun h => ⟨rfl, h⟩) t.f
theorem Rps.f {g : Gx} {fr : Bool} {w : Wd} {H : Hp} : ∀ {vs : List V} {ps : List PV}, Rps g w H vs ps → LksF g fr w H vs ps
  | _, _, .nil => .nil
  | _, _, .cons r t => .cons (.inl r) (Rps.f t)
section
variable {g : Gx} {fr : Bool} {w : Wd} {H : Hp}
theorem LkF.lk {v : V} {p : PV} (h : LkF g fr w H v p) : Lk g w H v p := h.imp id fun h => h.2
theorem LkF.lst {v : V} {xs : List PV} (h : LkF g fr w H v (.lst xs)) : ∃ a vs, v = .ref a ∧ H a = some (.lst vs) ∧ Rps g w H vs xs ∧ (fr = true → w.F a) := by
  rcases h with h | ⟨e0, a, c, e1, e, k⟩
  · cases h with
    | lst f e r => exact ⟨_, _, rfl, e, r, fun _ => f⟩
  · cases k with
    | l e2 r => cases e; exact ⟨a, _, e1, e2, r, fun z => by rw [e0] at z; cases z⟩
    | k e2 q r => cases e
    | t e2 q r => cases e
theorem LkF.tup {v : V} {xs : List PV} (h : LkF g fr w H v (.tup xs)) : ∃ a vs, v = .ref a ∧ Rd H a (.tup vs) ∧ Rps g w H vs xs ∧ (fr = true → w.F a) := by
  rcases h with h | ⟨e0, a, c, e1, e, k⟩
  · cases h with
    | tup f e _ r => exact ⟨_, _, rfl, tupH_rd e, r, fun _ => f⟩
  · exact absurd e.symm (Ct.pv_ne.2.2.2.2.1 xs)
/-- what R is owed for -/
def Start (g : Gx) (fr : Bool) (w : Wd) (H : Hp) (items : List PV) (J : It) : Prop :=
  ∃ src G, Wk g J src items G ∧ G w H ∧ (fr = true → ∀ a ∈ src, w.F a)
theorem sql_eq {K : PySem.W.Frag} {a : Addr} {vs : List V} {pins : List (Addr × Obj)} {X : Cx} {σ : L2.St} {s : Shared} (I : Inv X pins σ H s) : True := trivial
theorem wk_list {K : PySem.W.Frag} {a : Addr} {vs : List V} {xs : List PV} : Wk g (Itl K a) [a] xs (fun w H => H a = some (.lst vs) ∧ Rps g w H vs xs) where
  stab := fun w H w' H' h e q => ⟨(q a (by simp)).trans h.1, h.2.fz e⟩
  ex := fun w H h b hb => by
    have e : b = a := by simpa using hb
    subst e
    exact ⟨_, h.1⟩
  goes := fun i w H hi h => ⟨vs, vs[i]'(by rw [h.2.length]; exact hi), SqL.of h.1, by simp [h.2.length, hi]⟩
  stops := fun w H h => ⟨vs, SqL.of h.1, Nat.le_of_eq h.2.length⟩
  yields := fun i w H x H' hi h y => by
    have e := y.2 vs (SqL.of h.1)
    obtain ⟨p, h1, h2⟩ := h.2.getV e
    exact ⟨p, h1, .inl ⟨y.1, h2⟩⟩
theorem wk_tup {K : PySem.W.Frag} {a : Addr} {vs : List V} {xs : List PV} : Wk g (Itt K a) [a] xs (fun w H => Rd H a (.tup vs) ∧ Rps g w H vs xs) where
  stab := fun w H w' H' h e q => ⟨rd_same h.1 (q a (by simp)), h.2.fz e⟩
  ex := fun w H h b hb => by
    have e : b = a := by simpa using hb
    subst e
    exact rd_ex h.1
  goes := fun i w H hi h => ⟨vs, vs[i]'(by rw [h.2.length]; exact hi), (.inl h.1), by simp [h.2.length, hi]⟩
  stops := fun w H h => ⟨vs, (.inl h.1), Nat.le_of_eq h.2.length⟩
  yields := fun i w H x H' hi h y => by
    have e := y.2 vs ((.inl h.1))
    obtain ⟨p, h1, h2⟩ := h.2.getV e
    exact ⟨p, h1, .inl ⟨y.1, h2⟩⟩
theorem LkF.scr {v : V} {ns : List Int} (h : LkF g fr w H v (.scr ns)) : ∃ a, v = .ref a ∧ LsOk g w H a (ns.map V.int) := h.lk.scr
theorem ints_get {w : Wd} {H : Hp} {ns : List Int} {i : Nat} {x : V} (h : (ns.map V.int)[i]? = some x) : ∃ p, (ns.map PV.int)[i]? = some p ∧ Rp g w H x p := by
  rw [List.getElem?_map] at h ⊢
  cases q : ns[i]? with
  | none => rw [q] at h; cases h
  | some n => rw [q] at h; cases h; exact ⟨_, rfl, .int n⟩
theorem wk_scr1 {K : PySem.W.Frag} {a : Addr} {ns : List Int} : Wk g (Itl K a) [a] (ns.map PV.int) (fun w H => Rd H a (.lst (ns.map V.int))) where
  stab := fun w H w' H' h e q => by
    unfold Rd at h ⊢
    rw [q a (by simp)]
    exact h
  ex := fun w H h b hb => by
    have e : b = a := by simpa using hb
    subst e
    rcases h with h | ⟨o, h⟩
    · exact ⟨_, h⟩
    · exact ⟨_, h⟩
  goes := fun i w H hi h => by
    have hi : i < ns.length := by simpa using hi
    exact ⟨_, .int ns[i], .inl h, by simp [hi]⟩
  stops := fun w H h => ⟨_, .inl h, by simp⟩
  yields := fun i w H x H' hi h y => by
    obtain ⟨p, h1, h2⟩ := ints_get (g := g) (w := w) (H := H) (y.2 _ (.inl h))
    exact ⟨p, h1, .inl ⟨y.1, h2⟩⟩
theorem wk_scr2 {a : Addr} {ns : List Int} (hw : WrL g.K a (ns.map V.int)) : Wk g (Itl g.K a) [] (ns.map PV.int) (fun w H => True) where
  stab := fun _ _ _ _ _ _ _ => trivial
  ex := fun w H h b hb => by simp at hb
  goes := fun i w H hi h => by
    have hi : i < ns.length := by simpa using hi
    exact ⟨_, .int ns[i], .inr hw, by simp [hi]⟩
  stops := fun w H h => ⟨_, .inr hw, by simp⟩
  yields := fun i w H x H' hi h y => by
    obtain ⟨p, h1, h2⟩ := ints_get (g := g) (w := w) (H := H) (y.2 _ (.inr hw))
    exact ⟨p, h1, .inl ⟨y.1, h2⟩⟩
theorem wk_str {z : Str} (hz : okS z = true) : Wk g (Its z) [] (charsV z) (fun _ _ => True) where
  stab := fun _ _ _ _ _ _ _ => trivial
  ex := fun w H h b hb => by simp at hb
  goes := fun i w H hi _ => by
    have : i < z.cps.size := by simpa [charsV] using hi
    exact this
  stops := fun w H _ => by
    show z.cps.size ≤ (charsV z).length
    simp [charsV]
  yields := fun i w H x H' hi _ y => by
    obtain ⟨e, c, hc, rfl⟩ := y
    refine ⟨.str ⟨#[c]⟩, ?_, .inl ⟨e, .str _ (okS_1c hz ?_)⟩⟩
    · simp [charsV, hc]
    · have := Array.mem_of_getElem? hc
      simpa using this
theorem rngF_get : ∀ (n : Nat) (a : Int) (i : Nat), i < n → (rngF a n)[i]? = some (.int (a + i))
  | 0, _, _, h => absurd h (Nat.not_lt_zero _)
  | n + 1, a, 0, _ => by simp [rngF]
  | n + 1, a, i + 1, h => by
    have := rngF_get n (a + 1) i (Nat.lt_of_succ_lt_succ h)
    simp only [rngF, List.getElem?_cons_succ, this]
    congr 2
    omega
theorem rngF_length : ∀ (n : Nat) (a : Int), (rngF a n).length = n
  | 0, _ => rfl
  | n + 1, a => by simp [rngF, rngF_length n]
theorem wk_range {lo : Int} {n : Nat} : Wk g (Itr lo n) [] (rngF lo n) (fun _ _ => True) where
  stab := fun _ _ _ _ _ _ _ => trivial
  ex := fun w H h b hb => by simp at hb
  goes := fun i w H hi _ => by
    rw [rngF_length] at hi
    exact hi
  stops := fun w H _ => by
    show n ≤ (rngF lo n).length
    rw [rngF_length]
    exact Nat.le_refl _
  yields := fun i w H x H' hi _ y => by
    obtain ⟨e, rfl⟩ := y
    rw [rngF_length] at hi
    exact ⟨_, rngF_get n lo i hi, .inl ⟨e, .int _⟩⟩
theorem enumF_get : ∀ (xs : List PV) (n i : Nat), (enumF n xs)[i]? = (xs[i]?).map fun x => .tup [.int ((n + i : Nat) : Int), x]
  | [], _, _ => by simp [enumF]
  | x :: xs, n, 0 => by simp [enumF]
  | x :: xs, n, i + 1 => by
    simp only [enumF, List.getElem?_cons_succ, enumF_get xs (n + 1) i]
    congr 1
    funext y
    congr 4
    omega
theorem enumF_length : ∀ (xs : List PV) (n : Nat), (enumF n xs).length = xs.length
  | [], _ => rfl
  | x :: xs, n => by simp [enumF, enumF_length xs]
theorem wk_enum {K : PySem.W.Frag} {a : Addr} {vs : List V} {xs : List PV} : Wk g (Ite K a) [a] (enumF 0 xs) (fun w H => H a = some (.lst vs) ∧ Rps g w H vs xs) where
  stab := fun w H w' H' h e q => ⟨(q a (by simp)).trans h.1, h.2.fz e⟩
  ex := fun w H h b hb => by
    have e : b = a := by simpa using hb
    subst e
    exact ⟨_, h.1⟩
  goes := fun i w H hi h => ⟨vs, vs[i]'(by rw [enumF_length] at hi; rw [h.2.length]; exact hi), SqL.of h.1, by rw [enumF_length] at hi; simp [h.2.length, hi]⟩
  stops := fun w H h => ⟨vs, SqL.of h.1, by rw [enumF_length]; exact Nat.le_of_eq h.2.length⟩
  yields := fun i w H x H' hi h y => by
    obtain ⟨T, z, e1, e2, e3, e4⟩ := y
    have e := e4 vs (SqL.of h.1)
    obtain ⟨p, h1, h2⟩ := h.2.getV e
    refine ⟨.tup [.int ((0 + i : Nat) : Int), p], by rw [enumF_get, h1]; rfl, .inr ⟨T, _, _, e1, e2, e3, .cons ?_ (.cons h2 .nil), rfl, rfl⟩⟩
    rw [Nat.zero_add]
    exact .int _
theorem wk_enT {K : PySem.W.Frag} {a : Addr} {vs : List V} {xs : List PV} : Wk g (EnT K a) [a] (enumF 0 xs) (fun w H => Rd H a (.tup vs) ∧ Rps g w H vs xs) where
  stab := fun w H w' H' h e q => ⟨rd_same h.1 (q a (by simp)), h.2.fz e⟩
  ex := fun w H h b hb => by
    have e : b = a := by simpa using hb
    subst e
    exact rd_ex h.1
  goes := fun i w H hi h => ⟨vs, vs[i]'(by rw [enumF_length] at hi; rw [h.2.length]; exact hi), (.inl h.1), by rw [enumF_length] at hi; simp [h.2.length, hi]⟩
  stops := fun w H h => ⟨vs, (.inl h.1), by rw [enumF_length]; exact Nat.le_of_eq h.2.length⟩
  yields := fun i w H x H' hi h y => by
    obtain ⟨T, z, e1, e2, e3, e4⟩ := y
    have e := e4 vs ((.inl h.1))
    obtain ⟨p, h1, h2⟩ := h.2.getV e
    refine ⟨.tup [.int ((0 + i : Nat) : Int), p], by rw [enumF_get, h1]; rfl, .inr ⟨T, _, _, e1, e2, e3, .cons ?_ (.cons h2 .nil), rfl, rfl⟩⟩
    rw [Nat.zero_add]
    exact .int _
theorem zipF_get : ∀ (xs ys : List PV) (i : Nat) (p q : PV), xs[i]? = some p → ys[i]? = some q → (zipF xs ys)[i]? = some (.tup [p, q])
  | [], _, _, _, _, h, _ => by simp at h
  | _ :: _, [], _, _, _, _, h => by simp at h
  | x :: xs, y :: ys, 0, p, q, h1, h2 => by simp at h1 h2; simp [zipF, h1, h2]
  | x :: xs, y :: ys, i + 1, p, q, h1, h2 => by
    simp only [List.getElem?_cons_succ] at h1 h2
    simp only [zipF, List.getElem?_cons_succ, zipF_get xs ys i p q h1 h2]
theorem zipF_length : ∀ (xs ys : List PV), (zipF xs ys).length = min xs.length ys.length
  | [], ys => by simp [zipF]
  | _ :: _, [] => by simp [zipF]
  | x :: xs, y :: ys => by simp only [zipF, List.length_cons, zipF_length xs ys]; omega
theorem zip_slk {xs ys : List PV} (hz : ((zipF xs ys).any slp) = false) {i : Nat} {p : List PV} (h : (zipF xs ys)[i]? = some (.tup p)) : slk p = false := by
  have := List.any_eq_false.mp hz _ (List.mem_of_getElem? h)
  exact Bool.eq_false_iff.mpr this
def RdB (l : Bool) (H : Hp) (a : Addr) (vs : List V) : Prop := match l with
  | true => H a = some (.lst vs)
  | false => Rd H a (.tup vs)
theorem RdB.sq {l : Bool} {K : PySem.W.Frag} {H : Hp} {a : Addr} {vs : List V} (h : RdB l H a vs) : SqB l K H a vs := by
  cases l with
  | true => exact SqL.of h
  | false => exact .inl h
theorem RdB.same {l : Bool} {H H' : Hp} {a : Addr} {vs : List V} (h : RdB l H a vs) (e : H' a = H a) : RdB l H' a vs := by
  cases l with
  | true => exact e.trans h
  | false => exact rd_same h e
theorem RdB.ex {l : Bool} {H : Hp} {a : Addr} {vs : List V} (h : RdB l H a vs) : ∃ o, H a = some o := by
  cases l with
  | true => exact ⟨_, h⟩
  | false => exact rd_ex h
theorem wk_zipM {K : PySem.W.Frag} {l r : Bool} {a b : Addr} {vs us : List V} {xs ys : List PV} (hz : ((zipF xs ys).any slp) = false) : Wk g (ItzM l r K a b) [a, b] (zipF xs ys) (fun w H => (RdB l H a vs ∧ Rps g w H vs xs) ∧ RdB r H b us ∧ Rps g w H us ys) where
  stab := fun w H w' H' h e q => ⟨⟨h.1.1.same (q a (by simp)), h.1.2.fz e⟩, h.2.1.same (q b (by simp)), h.2.2.fz e⟩
  ex := fun w H h c hc => by
    have e : c = a ∨ c = b := by simpa using hc
    rcases e with rfl | rfl
    · exact h.1.1.ex
    · exact h.2.1.ex
  goes := fun i w H hi h => by
    rw [zipF_length] at hi
    have l1 := h.1.2.length
    have l2 := h.2.2.length
    have h1 : i < vs.length := by omega
    have h2 : i < us.length := by omega
    exact ⟨vs, us, vs[i], us[i], h.1.1.sq, h.2.1.sq, by simp [h1], by simp [h2]⟩
  stops := fun w H h => ⟨vs, us, h.1.1.sq, h.2.1.sq, by
    rw [zipF_length]
    have l1 := h.1.2.length
    have l2 := h.2.2.length
    omega⟩
  yields := fun i w H x H' hi h y => by
    obtain ⟨T, z, t, e1, e2, e3, e4, e5⟩ := y
    obtain ⟨p, h1, h2⟩ := h.1.2.getV (e4 vs h.1.1.sq)
    obtain ⟨q, h3, h4⟩ := h.2.2.getV (e5 us h.2.1.sq)
    exact ⟨.tup [p, q], zipF_get _ _ _ _ _ h1 h3, .inr ⟨T, _, _, e1, e2, e3, .cons h2 (.cons h4 .nil), rfl, zip_slk hz (zipF_get _ _ _ _ _ h1 h3)⟩⟩
end

/-! ### the iterators come -/
/-- the arguments of a walk, its items -/
def iK (g : Gx) (k : IK) (n : Nat) (t : TA) : TI := fun σ H R => t σ H fun vs H1 => ∃ fr w ps items, ps.length = n ∧ LksF g fr w H1 vs ps ∧ itV k ps = some items ∧ ∀ J, Start g fr w H1 items J → R J H1
section
variable {X : Cx} {g : Gx} {tg e e2 : Expr} {ta : TA} {te : TE} {p pos : Pos}
/-- one list, tuple or text -/
def iOne (g : Gx) (te : TE) : TI := fun σ H R => te σ H fun v H1 => ∃ fr w q items, LkF g fr w H1 v q ∧ itemsV q = some items ∧ ∀ J, Start g fr w H1 items J → R J H1
theorem pi_any (hK : X.K = g.K) (he : PE X e te) : PI X tg e (iOne g te) := by
  refine ⟨fun pins s σ H R I h => ?_⟩
  refine thn (he.run pins s σ H _ I h) fun v s1 ⟨x, H1, I1, r1, q1⟩ => ?_
  obtain ⟨fr, w, q, items, l, ei, hR⟩ := q1
  unfold itemsV at ei
  split at ei
  · cases ei
    obtain ⟨a, vs, rfl, e1, rp, f⟩ := l.lst
    cases r1
    obtain ⟨its, rv, p, hz⟩ := I1.list (SqL.of e1)
    refine wpAny_pyIter_list p.isList ?_
    refine ⟨s1.heap.objs.size, [s1.heap.objs.size], _, _, H1, rfl, I1.kept (t' := s1.toks) fun b o e => Heap.get?_push_of_some _ e, turn_list a _, ⟨_, Heap.get?_push_size _ rfl, rfl, rfl⟩, fun b hb => ?_, hR _ ⟨[a], _, wk_list, ⟨e1, rp⟩, fun h b hb => ?_⟩⟩
    · have e : b = s1.heap.objs.size := by simpa using hb
      subst e
      exact I1.fpOk (Nat.le_refl _) (I1.hok.fresh (Nat.le_refl _))
    · have e : b = a := by simpa using hb
      subst e
      exact f h
  · cases ei
    rename_i ns
    obtain ⟨a, rfl, ls⟩ := l.scr
    cases r1
    have hsq : SqL X.K H1 a (ns.map V.int) := by rw [hK]; exact ls.sql
    obtain ⟨its, rv, p, hz⟩ := I1.list hsq
    refine wpAny_pyIter_list p.isList ?_
    refine ⟨s1.heap.objs.size, [s1.heap.objs.size], _, _, H1, rfl, I1.kept (t' := s1.toks) fun b o e => Heap.get?_push_of_some _ e, turn_list a _, ⟨_, Heap.get?_push_size _ rfl, rfl, rfl⟩, fun b hb => ?_, hR _ ?_⟩
    · have e : b = s1.heap.objs.size := by simpa using hb
      subst e
      exact I1.fpOk (Nat.le_refl _) (I1.hok.fresh (Nat.le_refl _))
    · rcases ls with ⟨f, h⟩ | h
      · refine ⟨[a], _, wk_scr1, h, fun _ b hb => ?_⟩
        have e : b = a := by simpa using hb
        subst e
        exact f
      · rw [hK]
        exact ⟨[], _, wk_scr2 h, trivial, fun _ b hb => by simp at hb⟩
  · cases ei
    obtain ⟨a, vs, rfl, e1, rp, f⟩ := l.tup
    cases r1
    obtain ⟨its, rv, p, hz⟩ := I1.tuple (.inl e1)
    refine wpAny_pyIter_tuple (show s1.heap.IsTuple a its.toArray from p) ?_
    refine ⟨s1.heap.objs.size, [s1.heap.objs.size], _, _, H1, rfl, I1.kept (t' := s1.toks) fun b o e => Heap.get?_push_of_some _ e, turn_tuple a _, ⟨_, Heap.get?_push_size _ rfl, rfl, rfl⟩, fun b hb => ?_, hR _ ⟨[a], _, wk_tup, ⟨e1, rp⟩, fun h b hb => ?_⟩⟩
    · have e : b = s1.heap.objs.size := by simpa using hb
      subst e
      exact I1.fpOk (Nat.le_refl _) (I1.hok.fresh (Nat.le_refl _))
    · have e : b = a := by simpa using hb
      subst e
      exact f h
  · cases ei
    rename_i z
    obtain ⟨rfl, ok⟩ := l.lk.str
    obtain ⟨t, rfl⟩ := r1
    have q : R (Its z) H1 := hR _ ⟨[], _, wk_str ok, trivial, fun _ b hb => by simp at hb⟩
    cases ha : z.cps.all (· < 128)
    · exact wpAny_pyIter_wide ha (pi_one (tk := s1.toks) I1 _ (turn_str _ z t "str_iterator" (.inr rfl)) ⟨_, Heap.get?_push_size _ rfl, rfl, rfl⟩ q)
    · exact wpAny_pyIter_ascii ha (pi_one (tk := s1.toks) I1 _ (turn_str _ z t "str_ascii_iterator" (.inl rfl)) ⟨_, Heap.get?_push_size _ rfl, rfl, rfl⟩ q)
  · cases ei
theorem PI.imp {iter : Expr} {t t' : TI} (h : PI X tg iter t) (q : ∀ σ H R, t' σ H R → t σ H R) : PI X tg iter t' := ⟨fun pins s σ H R I z => h.run pins s σ H R I (q σ H R z)⟩
/-- two walks, whichever of them is due -/
theorem pi_or {iter : Expr} {t t' : TI} (h : PI X tg iter t) (h' : PI X tg iter t') : PI X tg iter (fun σ H R => t σ H R ∨ t' σ H R) := ⟨fun pins s σ H R I z => by
  rcases z with z | z
  · exact h.run pins s σ H R I z
  · exact h'.run pins s σ H R I z⟩
theorem LksF.one {fr : Bool} {w : Wd} {H : Hp} {vs : List V} {q : PV} (h : LksF g fr w H vs [q]) : ∃ v, vs = [v] ∧ LkF g fr w H v q := by
  cases h with
  | cons r t => cases t; exact ⟨_, rfl, r⟩
theorem LksF.two {fr : Bool} {w : Wd} {H : Hp} {vs : List V} {q r : PV} (h : LksF g fr w H vs [q, r]) : ∃ v u, vs = [v, u] ∧ LkF g fr w H v q ∧ LkF g fr w H u r := by
  cases h with
  | cons r t => cases t with | cons r2 t2 => cases t2; exact ⟨_, _, rfl, r, r2⟩
theorem tAr_mono {pf p : Bool} {Wx : WX} {fs : List F} {σ : L2.St} {H : Hp} {Q Q' : List V → Hp → Prop} (h : tAr g pf Wx p fs σ H Q) (q : ∀ vs H', Q vs H' → Q' vs H') : tAr g pf Wx p fs σ H Q' := by
  obtain ⟨w0, H0, w, env, W, rel, o⟩ := h
  refine ⟨w0, H0, w, env, W, rel, ?_⟩
  cases e : evs fs env W with
  | bad => rw [e] at o; exact o
  | exc c W1 => rw [e] at o; exact o
  | ok rs W1 => rw [e] at o; exact fun vs H' w' a b c d l => q _ _ (o vs H' w' a b c d l)
theorem tAr_one {pf p p' : Bool} {Wx : WX} {f : F} {σ : L2.St} {H : Hp} {Q : List V → Hp → Prop} (h : tAr g pf Wx p [f] σ H Q) (hp : p = true → p' = true) : tE g pf Wx p' f σ H fun v H1 => Q [v] H1 := by
  obtain ⟨w0, H0, w, env, W, rel, o⟩ := h
  refine ⟨w0, H0, w, env, W, rel, ?_⟩
  simp only [evs] at o
  cases e : f env W with
  | bad => rw [e] at o; exact o
  | exc c W1 => rw [e] at o; exact o
  | ok r W1 =>
    rw [e] at o
    intro v H1 w1 ext s rel1 rr
    exact o [v] H1 w1 ext (fun z => s (hp z)) rel1 (fun _ => .cons rr (ext.tr rel1.wk) (fun a c e1 e2 => by
      subst e1 e2
      obtain ⟨b, e, _, _, k⟩ := rr
      cases e
      exact k.ex) .nil) rfl
theorem rng_bd {i : Int} (h : inR62 i = true) : -(2 ^ 62) ≤ i ∧ i < 2 ^ 62 := by
  unfold inR62 at h
  simp only [Bool.and_eq_true, decide_eq_true_eq] at h
  omega
/-- how a walk is written -/
inductive ItE : IK → Expr → List Expr → Expr → Prop
  | one {tg e : Expr} : ItE .one tg [e] e
  | rng1 {tg a : Expr} {p pos : Pos} : ItE .rng tg [a] (.Call (.Name "range" p) [a] [] pos)
  | rng2 {tg a b : Expr} {p pos : Pos} : ItE .rng tg [a, b] (.Call (.Name "range" p) [a, b] [] pos)
  | enum {elts : List Expr} {kk : Nat} {tpos : Pos} {a : Expr} {p pos : Pos} : ItE .enum (.Tuple elts kk tpos) [a] (.Call (.Name "enumerate" p) [a] [] pos)
  | zip {elts : List Expr} {kk : Nat} {tpos : Pos} {a b : Expr} {p pos : Pos} : ItE .zip (.Tuple elts kk tpos) [a, b] (.Call (.Name "zip" p) [a, b] [] pos)
/-- the names that a walk wants free -/
structure ItF (X : Cx) : Prop where
  rng : X.mg "range" = none
  enum : X.mg "enumerate" = none
  zip : X.mg "zip" = none
def ikN : IK → Option Str
  | .rng => some "range" | .enum => some "enumerate" | .zip => some "zip" | _ => none
theorem s_iter (hK : X.K = g.K) {pf p : Bool} {Wx : WX} {k : IK} {es : List Expr} {fs : List F} {iter : Expr} (h : ItE k tg es iter) (hf : ItF X) (hg : ∀ x, ikN k = some x → Gl X x) (hes : PEs X g pf Wx es fs p) :
    PI X tg iter (iK g k fs.length (tAr g pf Wx p fs)) := by
  cases h with
  | one =>
    cases hes with
    | cons h h' hs t =>
      cases t
      refine PI.imp (pi_any (g := g) hK h) fun σ H R z => ?_
      obtain ⟨w0, H0, w, env, W, rel, o⟩ := tAr_one (p' := _) z and1
      refine ⟨w0, H0, w, env, W, rel, ?_⟩
      rename_i f p'
      cases e : f env W with
      | bad => rw [e] at o; exact o
      | exc c W1 => rw [e] at o; exact o
      | ok r W1 =>
        rw [e] at o
        intro v H1 w1 a b c d
        obtain ⟨fr, w, ps, items, hl, l, ei, hR⟩ := o v H1 w1 a b c d
        cases l with
        | cons r t =>
          cases t
          exact ⟨fr, w, _, items, r, ei, hR⟩
  | rng1 =>
    have hes' := hes
    cases hes with
    | cons h h' hs t =>
      cases t
      refine PI.imp (pi_range1 (hg _ rfl) hf.rng hes'.args (by rw [hs]; rfl)) fun σ H R z => ?_
      refine tAr_mono z fun vs H' ⟨fr, w, ps, items, hl, l, ei, hR⟩ => ?_
      match ps, hl with
      | [q], _ =>
        obtain ⟨v, rfl, k⟩ := l.one
        cases q <;> simp only [itV] at ei <;> try (cases ei; done)
        split at ei
        · rename_i hr
          cases ei
          obtain ⟨h1, h2⟩ := rng_bd hr
          exact ⟨_, by rw [k.lk.int], h1, h2, hR _ ⟨[], _, wk_range, trivial, fun _ b hb => by simp at hb⟩⟩
        · cases ei
  | rng2 =>
    have hes' := hes
    cases hes with
    | cons h h' hs t =>
      cases t with
      | cons h2 h2' hs2 t2 =>
        cases t2
        refine PI.imp (pi_range2 (hg _ rfl) hf.rng hes'.args (by rw [hs, hs2]; rfl) (by rw [hs2]; rfl)) fun σ H R z => ?_
        refine tAr_mono z fun vs H' ⟨fr, w, ps, items, hl, l, ei, hR⟩ => ?_
        match ps, hl with
        | [q, r], _ =>
          obtain ⟨v, u, rfl, k, k2⟩ := l.two
          cases q <;> cases r <;> simp only [itV] at ei <;> try (cases ei; done)
          split at ei
          · rename_i hr
            cases ei
            obtain ⟨h1, h2⟩ := rng_bd (and1 hr)
            obtain ⟨h3, h4⟩ := rng_bd (and2 hr)
            exact ⟨_, _, by rw [k.lk.int, k2.lk.int], ⟨h1, h2, h3, h4⟩, hR _ ⟨[], _, wk_range, trivial, fun _ b hb => by simp at hb⟩⟩
          · cases ei
  | enum =>
    have hes' := hes
    cases hes with
    | cons h h' hs t =>
      cases t
      refine PI.imp (pi_enX (hg _ rfl) hf.enum hes'.args (by rw [hs]; rfl)) fun σ H R z => ?_
      refine tAr_mono z fun vs H' ⟨fr, w, ps, items, hl, l, ei, hR⟩ => ?_
      match ps, hl with
      | [q], _ =>
        obtain ⟨v, rfl, k⟩ := l.one
        cases q <;> simp only [itV] at ei <;> try (cases ei; done)
        · cases ei
          obtain ⟨a, us, rfl, e1, rp, f⟩ := k.tup
          exact ⟨a, rfl, .inr ⟨us, (.inl e1), hR _ ⟨[a], _, wk_enT, ⟨e1, rp⟩, fun h b hb => by
            have e : b = a := by simpa using hb
            subst e
            exact f h⟩⟩⟩
        · cases ei
          obtain ⟨a, us, rfl, e1, rp, f⟩ := k.lst
          exact ⟨a, rfl, .inl ⟨us, SqL.of e1, hR _ ⟨[a], _, wk_enum, ⟨e1, rp⟩, fun h b hb => by
            have e : b = a := by simpa using hb
            subst e
            exact f h⟩⟩⟩
  | zip =>
    have hes' := hes
    cases hes with
    | cons h h' hs t =>
      cases t with
      | cons h2 h2' hs2 t2 =>
        cases t2
        refine PI.imp (pi_zipM (hg _ rfl) hf.zip hes'.args hs (by rw [hs2]; rfl)) fun σ H R z => ?_
        refine tAr_mono z fun vs H' ⟨fr, w, ps, items, hl, l, ei, hR⟩ => ?_
        match ps, hl with
        | [q, r], _ =>
          obtain ⟨v, u, rfl, k, k2⟩ := l.two
          have sq : ∀ {v : V} {q : PV} {xs : List PV}, LkF g fr w H' v q → (q = .lst xs ∨ q = .tup xs) → ∃ l a vs, v = .ref a ∧ RdB l H' a vs ∧ Rps g w H' vs xs ∧ (fr = true → w.F a) := fun k e => by
            rcases e with rfl | rfl
            · obtain ⟨a, us, rfl, e1, rp, f⟩ := k.lst
              exact ⟨true, a, us, rfl, e1, rp, f⟩
            · obtain ⟨a, us, rfl, e1, rp, f⟩ := k.tup
              exact ⟨false, a, us, rfl, e1, rp, f⟩
          have go : ∀ {xs ys : List PV}, (q = .lst xs ∨ q = .tup xs) → (r = .lst ys ∨ r = .tup ys) → (if (zipF xs ys).any slp then none else some (zipF xs ys)) = some items → ∃ l r a b xs ys, ([v, u] : List V) = [.ref a, .ref b] ∧ SqB l X.K H' a xs ∧ SqB r X.K H' b ys ∧ R (ItzM l r X.K a b) H' := fun {xs ys} eq er ei => by
            split at ei
            · cases ei
            rename_i hz
            have hz := Bool.eq_false_iff.mpr hz
            cases ei
            obtain ⟨l1, a, us, rfl, e1, rp, f⟩ := sq k eq
            obtain ⟨l2, b, us2, rfl, e2, rp2, f2⟩ := sq k2 er
            exact ⟨l1, l2, a, b, us, us2, rfl, e1.sq, e2.sq, hR _ ⟨[a, b], _, wk_zipM hz, ⟨⟨e1, rp⟩, e2, rp2⟩, fun h c hc => by
              have e : c = a ∨ c = b := by simpa using hc
              rcases e with rfl | rfl
              · exact f h
              · exact f2 h⟩⟩
          cases q <;> cases r <;> simp only [itV] at ei <;> try (cases ei; done)
          all_goals first
            | exact go (.inl rfl) (.inl rfl) ei
            | exact go (.inl rfl) (.inr rfl) ei
            | exact go (.inr rfl) (.inl rfl) ei
            | exact go (.inr rfl) (.inr rfl) ei
end
end D

/-! D11: targets, comprehensions. -/
namespace D
open PySem PySem.Spec PyProof.Rows L2

mutual
def ctS : CT → List Nat
  | .nm i => [i]
  | .tp ts => ctSs ts
def ctSs : List CT → List Nat
  | [] => []
  | t :: ts => ctS t ++ ctSs ts
end
section
variable {g : Gx} {pf : Bool} {w0 w w' : Wd} {H0 H H' : Hp} {env env' : Ev} {W W' : Om} {σ σ' : L2.St}
theorem Rel.put1 (rel : Rel g pf w0 H0 w env W σ H) (i : Nat) (s : Sl) (o : Option V) (hs : ∀ c, s ≠ .own c) (ok : SlOk g w0 H0 w H (some o) s) : Rel g pf w0 H0 w (env.set i s) W (σ.set i o) H where
  wk := rel.wk
  ext := rel.ext
  tr0 := rel.tr0
  pur := rel.pur
  len := by simp [rel.len]
  sl := fun j t h => by
    by_cases e : i = j
    · subst e
      by_cases hi : i < env.length
      · rw [List.getElem?_set_self hi] at h
        cases h
        rw [List.getElem?_set_self (by rw [← rel.len]; exact hi)]
        exact ok
      · rw [List.getElem?_eq_none (by simpa using hi)] at h
        cases h
    · rw [List.getElem?_set_ne e] at h ⊢
      exact rel.sl j t h
  dj := fun j k c d a ne h1 h2 h3 => by
    have nj : i ≠ j := fun e => by
      subst e
      by_cases hi : i < env.length
      · rw [List.getElem?_set_self hi] at h1
        cases h1
        exact hs c rfl
      · rw [List.getElem?_eq_none (by simpa using hi)] at h1
        cases h1
    have nk : i ≠ k := fun e => by
      subst e
      by_cases hi : i < env.length
      · rw [List.getElem?_set_self hi] at h2
        cases h2
        exact hs d rfl
      · rw [List.getElem?_eq_none (by simpa using hi)] at h2
        cases h2
    rw [List.getElem?_set_ne nj] at h1 h3
    rw [List.getElem?_set_ne nk] at h2 ⊢
    exact rel.dj j k c d a ne h1 h2 h3
theorem Rel.set {x : V} {p : PV} (rel : Rel g pf w0 H0 w env W σ H) (i : Nat) (r : Rp g w H x p) : Rel g pf w0 H0 w (env.set i (.val p)) W (σ.set i (some x)) H :=
  rel.put1 i _ _ (fun _ h => nomatch h) ⟨x, rfl, r⟩
theorem Rel.wipe (rel : Rel g pf w0 H0 w env W σ H) : ∀ vs : List Nat, Rel g pf w0 H0 w (wipeE env vs) W (L2.wipe σ vs) H
  | [] => rel
  | v :: vs => (Rel.wipe rel vs).put1 v .un none (fun _ h => nomatch h) trivial
theorem wipe_get {σ : L2.St} {i : Nat} : ∀ {vs : List Nat}, i ∈ vs → (L2.wipe σ vs)[i]? = if i < σ.length then some none else none
  | v :: vs, h => by
    unfold L2.wipe
    by_cases e : v = i
    · subst e
      by_cases hv : v < σ.length
      · rw [List.getElem?_set_self (by rw [wipe_length]; exact hv), if_pos hv]
      · rw [if_neg hv, List.getElem?_eq_none (by rw [List.length_set, wipe_length]; omega)]
    · rw [List.getElem?_set_ne e]
      exact wipe_get (by
        rcases List.mem_cons.mp h with z | z
        · exact absurd z.symm e
        · exact z)
theorem wipe_eq {σ σ2 : L2.St} {vs : List Nat} (hl : σ2.length = σ.length) (h : ∀ i, i ∉ vs → σ2[i]? = (L2.wipe σ vs)[i]?) : L2.wipe σ2 vs = L2.wipe σ vs := by
  apply List.ext_getElem?
  intro i
  by_cases hi : i ∈ vs
  · rw [wipe_get hi, wipe_get hi, hl]
  · rw [wipe_out hi, h i hi]
/-- the outer slots again -/
theorem Rel.of (rel : Rel g pf w0 H0 w env W σ H) (r : Rel g pf w0 H0 w' env' W' σ' H') (e : Ext w H w' H') : Rel g pf w0 H0 w' env W' σ H' where
  wk := r.wk
  ext := r.ext
  tr0 := r.tr0
  pur := r.pur
  len := rel.len
  sl := fun i s h => (rel.sl i s h).mono e
  dj := rel.dj
theorem Fz.put {D : Addr} {o : HO} (wk : WOk g w W H) (ng : ¬ w.G D) : Fz w H w (upd H D o) := ⟨fun b f => ⟨f, upd_ne fun z => ng (z ▸ wk.FG b f)⟩, fun _ _ h => h⟩
theorem WOk.put {D : Addr} {o : HO} (wk : WOk g w W H) (ng : ¬ w.G D) : WOk g w W (upd H D o) :=
  wk.mono rfl (fun _ f => f) (fun b f => ⟨f, upd_ne fun z => ng (z ▸ f)⟩) (fun _ f => .inl f) wk.FG fun b f => by
    rw [upd_ne fun z : b = D => ng (z ▸ f)]
    exact wk.tr b f
theorem Ext.put {D : Addr} {o : HO} (e : Ext w H w' H') (wk : WOk g w' W H') (h : H D = none) (ng : ¬ w'.G D) : Ext w H w' (upd H' D o) where
  kF := fun b f => by
    obtain ⟨h1, e1⟩ := e.kF b f
    exact ⟨h1, by rw [upd_ne (fun z : b = D => ng (z ▸ wk.FG b h1))]; exact e1⟩
  kG := e.kG
  kR := fun b u q n => by
    obtain ⟨h1, n1⟩ := e.kR b u q n
    exact ⟨by rw [upd_ne fun z => by rw [z, h] at q; cases q]; exact h1, n1⟩
  kO := e.kO
theorem same_put {D : Addr} {o : HO} (s : Same H H') (h : H D = none) : Same H (upd H' D o) := fun b u q => by
  rw [upd_ne fun z => by rw [z, h] at q; cases q]
  exact s b u q
/-- a list of its own, in no slot, is filled -/
theorem Rel.fill {D : Addr} {o : HO} (rel : Rel g pf w0 H0 w env W σ H) (ng : ¬ w.G D) (h0 : H0 D = none) (ns : ∀ (i : Nat) (c : Ct), env[i]? = some (.own c) → σ[i]? ≠ some (some (V.ref D))) : Rel g pf w0 H0 w env W σ (upd H D o) where
  wk := rel.wk.put ng
  ext := rel.ext.put rel.wk h0 ng
  tr0 := fun a h => rel.tr0 a (upd_none h)
  pur := fun h => same_put (rel.pur h) h0
  len := rel.len
  sl := fun i s e => by
    have q := rel.sl i s e
    cases s with
    | un => trivial
    | val p => obtain ⟨v, e1, k⟩ := q; exact ⟨v, e1, k.fz (Fz.put rel.wk ng)⟩
    | own c =>
      obtain ⟨b, e1, hn, ngb, k⟩ := q
      have nb : b ≠ D := fun z => ns i c e (z ▸ e1)
      refine ⟨b, e1, hn, ngb, ?_⟩
      cases k with
      | l e1 r => exact .l (by rw [upd_ne nb]; exact e1) (r.fz (Fz.put rel.wk ng))
      | k e1 e2 r => exact .k (by rw [upd_ne nb]; exact e1) e2 (r.fz (Fz.put rel.wk ng))
      | t e1 e2 r => exact .t (by rw [upd_ne nb]; exact e1) e2 (r.fz (Fz.put rel.wk ng))
  dj := rel.dj
/-- a result made plain -/
theorem RR.plain {v : V} {r : R} {p : PV} (h : RR g w' H H' v r) (e : r.v = some p) (wk : WOk g w' W H') (hH : ∀ a, H a = none → H0 a = none) :
    ∃ w'', Rp g w'' H' v p ∧ Fz w' H' w'' H' ∧ (∀ w1 H1, Ext w1 H1 w' H' → (∀ a, H a = none → H1 a = none) → Ext w1 H1 w'' H') ∧ (∀ env W σ, Rel g pf w0 H0 w' env W σ H' → (∀ a, H a = none → ∀ (i : Nat) (c : Ct), env[i]? = some (.own c) → σ[i]? ≠ some (some (V.ref a))) → Rel g pf w0 H0 w'' env W σ H') ∧
      (∀ D o, H D = some o → ¬ w'.G D → ¬ w''.G D) ∧ ∀ v p, Rp g w' H' v p → Rp g w'' H' v p := by
  cases r with
  | val q => cases e; exact ⟨w', h, Fz.refl _ _, fun _ _ e _ => e, fun _ _ _ r _ => r, fun _ _ _ n => n, fun _ _ r => r⟩
  | bor c => cases e
  | fre c =>
    cases e
    obtain ⟨a, rfl, hn, ng, k⟩ := h
    obtain ⟨o, ho⟩ := k.ex
    refine ⟨w'.frz a, k.pv, ⟨fun b hb => ⟨Or.inr hb, rfl⟩, fun _ _ h => h⟩, fun w1 H1 e h1 => e.frz (h1 a hn), fun env W σ r ns => r.frz ho ng (hH a hn) (ns a hn), fun D u hD n z => ?_, fun _ _ r => r.frz⟩
    rcases z with rfl | z
    · rw [hn] at hD; cases hD
    · exact n z
end

/-! ### targets -/
mutual
inductive TgE (X : Cx) : CT → Expr → Prop
  | nm {i : Nat} {x : Str} {pos : Pos} (hi : X.N[i]? = some x) (hx : Loc X.env.scope x) (hf : X.fn x = true ∨ X.env.scope.names.lookup x = some .local) : TgE X (.nm i) (.Name x pos)
  | tp {ts : List CT} {es : List Expr} {k : Nat} {pos : Pos} (h : TgEs X ts es) : TgE X (.tp ts) (.Tuple es k pos)
inductive TgEs (X : Cx) : List CT → List Expr → Prop
  | nil : TgEs X [] []
  | cons {t : CT} {ts : List CT} {e : Expr} {es : List Expr} (h : TgE X t e) (tt : TgEs X ts es) : TgEs X (t :: ts) (e :: es)
end
theorem TgEs.each {X : Cx} : ∀ {ts : List CT} {es : List Expr}, TgEs X ts es → (assignEach es X.env).length = ts.length ∧ (assignEach es X.env).findIdx? (·.1) = none
  | _, _, .nil => ⟨rfl, rfl⟩
  | _, _, .cons h t => by
    obtain ⟨h1, h2⟩ := TgEs.each t
    cases h with
    | nm _ _ _ =>
      refine ⟨?_, ?_⟩
      · show (assignEach _ X.env).length + 1 = _
        rw [h1]; rfl
      · show ((false, _) :: assignEach _ X.env).findIdx? (·.1) = none
        rw [List.findIdx?_cons, h2]; rfl
    | tp _ =>
      refine ⟨?_, ?_⟩
      · show (assignEach _ X.env).length + 1 = _
        rw [h1]; rfl
      · show ((false, _) :: assignEach _ X.env).findIdx? (·.1) = none
        rw [List.findIdx?_cons, h2]; rfl
def gB (g : Gx) (pf : Bool) (t : CT) : TG := fun v σ H Q => ∃ w0 H0 w env W p env', Rel g pf w0 H0 w env W σ H ∧ Rp g w H v p ∧ bind t p env = some env' ∧ ∀ σ', Rel g pf w0 H0 w env' W σ' H → (∀ i, i ∉ ctS t → σ'[i]? = σ[i]?) → Q σ' H
def gBs (g : Gx) (pf : Bool) (ts : List CT) : TGs := fun vs σ H Q => ∃ w0 H0 w env W ps env', Rel g pf w0 H0 w env W σ H ∧ Rps g w H vs ps ∧ binds ts ps env = some env' ∧ ∀ σ', Rel g pf w0 H0 w env' W σ' H → (∀ i, i ∉ ctSs ts → σ'[i]? = σ[i]?) → Q σ' H
theorem _root_.L2.PG.imp {X : Cx} {e : Expr} {t t' : TG} (h : PG X e t) (q : ∀ v σ H Q, t' v σ H Q → t v σ H Q) : PG X e t' := ⟨fun pins s σ H v u Q I r z => h.run pins s σ H v u Q I r (q v σ H Q z)⟩
theorem _root_.L2.PGs.imp {X : Cx} {e : List Expr} {t t' : TGs} (h : PGs X e t) (q : ∀ v σ H Q, t' v σ H Q → t v σ H Q) : PGs X e t' := ⟨fun pins s σ H v u Q I r z => h.run pins s σ H v u Q I r (q v σ H Q z)⟩
theorem binds_len : ∀ {ts : List CT} {ps : List PV} {env env' : Ev}, binds ts ps env = some env' → ts.length = ps.length
  | [], [], _, _, _ => rfl
  | [], _ :: _, _, _, h => by simp [binds] at h
  | _ :: _, [], _, _, h => by simp [binds] at h
  | t :: ts, p :: ps, env, env', h => by
    simp only [binds] at h
    split at h
    · simp [binds_len h]
    · cases h
mutual
theorem s_tg {X : Cx} {g : Gx} {pf : Bool} (hN : X.N.Nodup) (hc : X.calm = true) (hK : X.K = g.K) : ∀ {t : CT} {e : Expr}, TgE X t e → PG X e (gB g pf t)
  | _, _, .nm hi hx hf => (pg_name hN hi hx hf).imp fun v σ H Q ⟨w0, H0, w, env, W, p, env', rel, rp, e, k⟩ => by
    simp only [bind] at e
    cases e
    refine k _ (rel.set _ rp) fun j hj => ?_
    simp only [ctS, List.mem_singleton] at hj
    rw [List.getElem?_set_ne fun z => hj z.symm]
  | _, _, .tp h => (pg_tup hc (s_tgs hN hc hK h) rfl h.each.2).imp fun v σ H Q ⟨w0, H0, w, env, W, p, env', rel, rp, e, k⟩ => by
    cases p <;> simp only [bind] at e <;> try (cases e; done)
    cases rp with
    | tup f h1 hb r =>
      exact ⟨_, _, rfl, .inl (tupH_rd h1), by rw [r.length, ← binds_len e, h.each.1], w0, H0, w, env, W, _, env', rel, r, e, fun σ' r' fr => k σ' r' fun i hi => fr i (by simpa [ctS] using hi)⟩
theorem s_tgs {X : Cx} {g : Gx} {pf : Bool} (hN : X.N.Nodup) (hc : X.calm = true) (hK : X.K = g.K) : ∀ {ts : List CT} {es : List Expr}, TgEs X ts es → PGs X es (gBs g pf ts)
  | _, _, .nil => pgs_nil.imp fun vs σ H Q ⟨w0, H0, w, env, W, ps, env', rel, rp, e, k⟩ => by
    cases ps with
    | nil =>
      simp only [binds] at e
      cases e
      cases rp
      exact ⟨rfl, k σ rel fun _ _ => rfl⟩
    | cons _ _ => simp [binds] at e
  | _, _, .cons h t => (pgs_cons (s_tg hN hc hK h) (s_tgs hN hc hK t) (by cases h <;> rfl)).imp fun vs σ H Q ⟨w0, H0, w, env, W, ps, env', rel, rp, e, k⟩ => by
    cases ps with
    | nil => simp [binds] at e
    | cons p ps =>
      cases rp with
      | cons r rr =>
        simp only [binds] at e
        split at e
        · rename_i env1 e1
          refine ⟨_, _, rfl, w0, H0, w, env, W, p, env1, rel, r, e1, fun σ1 rel1 fr1 => ⟨w0, H0, w, env1, W, ps, env', rel1, rr, e, fun σ' rel' fr => k σ' rel' fun i hi => ?_⟩⟩
          simp only [ctSs, List.mem_append, not_or] at hi
          rw [fr i hi.2, fr1 i hi.1]
        · cases e
end
end D

/-! D12: comprehensions. -/
namespace D
open PySem PySem.Spec PyProof.Rows L2

abbrev W0 : WX := fun _ _ _ _ => False
theorem vals_of_noB : ∀ {rs : List R}, noB rs = true → vals? rs = some (rs.map R.look)
  | [], _ => rfl
  | r :: rs, h => by
    unfold noB at h
    rw [List.all_cons] at h
    have ih := vals_of_noB (rs := rs) (by unfold noB; exact and2 h)
    have h1 := and1 h
    simp only [vals?, ih, List.map_cons]
    cases r with
    | val v => rfl
    | fre c => rfl
    | bor c => cases h1
theorem noX_ok {α : Type} {o : Out α} {a : α} {W : Om} (h : noX o = .ok a W) : o = .ok a W := by
  cases o <;> simp [noX] at h ⊢
  exact h
mutual
theorem bind_length : ∀ {t : CT} {p : PV} {env env' : Ev}, bind t p env = some env' → env'.length = env.length
  | .nm i, p, env, env', h => by
    simp only [bind] at h
    cases h
    simp
  | .tp ts, p, env, env', h => by
    cases p <;> simp only [bind] at h <;> try (cases h; done)
    exact binds_length h
theorem binds_length : ∀ {ts : List CT} {ps : List PV} {env env' : Ev}, binds ts ps env = some env' → env'.length = env.length
  | [], [], env, env', h => by simp only [binds] at h; cases h; rfl
  | [], _ :: _, _, _, h => by simp [binds] at h
  | _ :: _, [], _, _, h => by simp [binds] at h
  | t :: ts, p :: ps, env, env', h => by
    simp only [binds] at h
    split at h
    · rename_i env1 e1
      rw [binds_length h, bind_length e1]
    · cases h
end
section
variable {X : Cx} {g : Gx} {pf pe pes pc : Bool} {Wx : WX} {fe : F} {fs fc : List F} {elt tg iter : Expr} {es ifs : List Expr} {scope : Scope} {own : List (Str × Nat)} {pos : Pos} {k : IK} {tgE : CT}

theorem comp_imp (hsl : ∀ i, i ∈ ctS tgE → i ∈ own.map (·.2)) : ∀ σ H Q, tE g pf Wx (pe && (pes && pc)) (evComp fe tgE k fs fc (own.map (·.2)) pes (pe && pc)) σ H Q →
    tLc (iK g k fs.length (tAr g pf Wx pes fs)) (gB g pf tgE) (tB (tE g pf W0 pc (evAnd fc))) (tE g pf W0 pe fe) (own.map (·.2)) σ H Q := fun σ H Q ⟨w0, H0, w, env, W, rel, o⟩ => by
  refine ⟨w0, H0, w, env, W, rel, ?_⟩
  unfold evComp at o
  cases q : evs fs env W with
  | bad => rw [q] at o; exact o
  | exc c W1 => rw [q] at o; exact o
  | ok rs W1 =>
  rw [q] at o
  simp only [Out.bind_ok] at o
  intro vs H1 w1 ext1 s1 rel1 rrs hl
  generalize hP : (pe && (pes && pc)) = P at o ⊢
  have hPe : P = true → pes = true := fun z => by subst hP; exact and1 (and2 z)
  have hPx : P = true → pe = true ∧ pc = true := fun z => by subst hP; exact ⟨and1 z, and2 (and2 z)⟩
  -- what is walked
  have key : ∃ fr w2 ps, LksF g fr w2 H1 vs ps ∧ ps = rs.map R.look ∧ Ext w H w2 H1 ∧ Rel g pf w0 H0 w2 env W1 σ H1 ∧ (fr = false → P = true) ∧
      oE g pf Wx w0 H0 env σ w H P Q (match itV k (rs.map R.look) with
        | some items => if items.length ≤ sz then (loopC (turnC fe tgE fc (own.map (·.2)) env) items W1).bind fun ys W4 => .ok (.fre (.l ys)) W4 else .bad
        | none => .bad) := by
    split at o
    · rename_i hb
      by_cases nb : noB rs = true
      · have sl : ∀ (i : Nat) (c : Ct) (a : Addr), env[i]? = some (.own c) → σ[i]? = some (some (V.ref a)) → H a ≠ none := fun i c a e1 e2 e3 => by
          obtain ⟨b, e4, _, _, k⟩ := rel.sl i _ e1
          rw [e2] at e4
          cases e4
          obtain ⟨ob, z⟩ := k.ex
          rw [e3] at z; cases z
        obtain ⟨w2, x1, x2, x3, _⟩ := RRs.plain (rrs (by rw [nb]; rfl)) (vals_of_noB nb) (fun _ z => z) rel.tr0 sl rel1 ext1
        exact ⟨true, w2, _, x3.f, rfl, x1, x2, (fun z => nomatch z), o⟩
      · have hp : (pes && (pe && pc)) = true := by
          rcases Bool.or_eq_true_iff.mp hb with z | z
          · exact absurd z nb
          · exact z
        have hP' : P = true := by
          subst hP
          rw [and1 (and2 hp), and2 (and2 hp), and1 hp]; rfl
        exact ⟨false, w1, _, (rrs (by rw [and1 hp, Bool.or_true])).lks.f, rfl, ext1, rel1, fun _ => hP', o⟩
    · exact o.elim
  obtain ⟨fr, w2, ps, lk, rfl, ext2, rel2, hfr, o2⟩ := key
  cases q2 : itV k (rs.map R.look) with
  | none => rw [q2] at o2; exact o2.elim
  | some items =>
  rw [q2] at o2
  simp only at o2
  split at o2
  · rename_i hsz
    refine ⟨fr, w2, _, items, by rw [List.length_map]; exact evs_length q, lk, q2, fun J ⟨src, G, wk, g0, hF⟩ D hD => ?_⟩
    have o3 : oE g pf Wx w0 H0 env σ w2 H1 P Q ((loopC (turnC fe tgE fc (own.map (·.2)) env) items W1).bind fun ys W4 => .ok (.fre (.l ys)) W4) := o2.shift ext2 (fun z => s1 (hPe z)) (ext2.tr rel2.wk)
    have hD0 : H0 D = none := rel2.tr0 D hD
    have nsD : ∀ (i : Nat) (c : Ct), env[i]? = some (.own c) → σ[i]? ≠ some (some (V.ref D)) := rel2.fresh_slot hD
    have srcD : ∀ a ∈ src, a ≠ D := fun a ha e => by
      obtain ⟨o, z⟩ := wk.ex w2 H1 g0 a ha
      rw [e, hD] at z; cases z
    -- the invariant
    let Pv : Nat → Hp → Prop := fun i H => ∃ w W acc xs, Rel g pf w0 H0 w env W σ H ∧ G w H ∧ Ext w2 H1 w H ∧ (P = true → Same H1 H) ∧ H D = some (.lst acc) ∧ ¬ w.G D ∧ Rps g w H acc xs ∧ xs.length ≤ i ∧
      oE g pf Wx w0 H0 env σ w2 H1 P Q ((loopC (turnC fe tgE fc (own.map (·.2)) env) (items.drop i) W).bind fun ys W4 => .ok (.fre (.l (xs ++ ys))) W4)
    have stab : ∀ w H w' H', G w H → Ext w2 H1 w H → Fz w H w' H' → (P = true → ∀ a u, a ≠ D → H a = some u → H' a = some u) → G w' H' := fun w H w' H' hg e f s => by
      refine wk.stab w H w' H' hg f fun a ha => ?_
      cases fr with
      | true =>
        exact (f.kF a (e.kF a (hF rfl a ha)).1).2
      | false =>
        obtain ⟨u, z⟩ := wk.ex w H hg a ha
        rw [z]
        exact s (hfr rfl) a u (srcD a ha) z
    refine ⟨fun i m H => m = items.length - i ∧ i ≤ items.length ∧ Pv i H, ⟨items.length, by simp, Nat.zero_le _, ?_⟩, ?_⟩
    · refine ⟨w2, W1, [], [], rel2.laid hD, ?_, Ext.laid rel2.wk hD, fun _ => same_laid hD, upd_same, rel2.wk.fresh hD, .nil, Nat.le_refl _, by simpa using o3⟩
      exact stab w2 H1 w2 _ g0 (Ext.refl _ _) (Ext.laid rel2.wk hD).fz fun _ a u _ z => same_laid hD a u z
    rintro i m H3 ⟨rfl, hi, w3, W3, acc, xs, rel3, g3, ext3, same3, hDl, ngD, rps3, hlen, o4⟩
    by_cases hlt : i < items.length
    · refine .inr ⟨wk.goes i w3 H3 hlt g3, Pv (i + 1), fun H' p' => ⟨items.length - (i + 1), by omega, rfl, hlt, p'⟩, fun x H4 y => ?_⟩
      obtain ⟨p, hp, hy⟩ := wk.yields i w3 H3 x H4 hlt g3 y
      -- the item stands
      have item : ∃ w4, Ext w3 H3 w4 H4 ∧ Rel g pf w0 H0 w4 env W3 σ H4 ∧ Rp g w4 H4 x p ∧ Same H3 H4 := by
        rcases hy with ⟨rfl, rp⟩ | ⟨T, us, qs, rfl, hT, rfl, rq, rfl, hq⟩
        · exact ⟨w3, Ext.refl _ _, rel3, rp, Same.refl _⟩
        · exact ⟨w3.frz T, Ext.laidF rel3.wk hT, rel3.laidF hT, .tup (o := bareO []) (.inl rfl) (by rw [hq]; exact upd_same) (bareO_ok []) (rq.mono (Ext.laidF rel3.wk hT)), same_laid hT⟩
      obtain ⟨w4, ext4, rel4, rp4, same4⟩ := item
      have e2 : items.drop i = p :: items.drop (i + 1) := by
        rw [List.drop_eq_getElem_cons hlt]
        rw [List.getElem?_eq_getElem hlt] at hp
        cases hp
        rfl
      rw [e2] at o4
      simp only [loopC] at o4
      cases q4 : turnC fe tgE fc (own.map (·.2)) env p W3 with
      | bad => rw [q4] at o4; exact o4.elim
      | exc c W4 =>
        unfold turnC at q4
        split at q4
        · rename_i z
          cases z' : ((evAnd fc _ W3).bind _ : Out (Option PV)) with
          | ok a b => rw [z'] at q4; cases q4
          | exc a b => rw [z'] at q4; cases q4
          | bad => rw [z'] at q4; cases q4
        · cases q4
      | ok oy W9 =>
      rw [q4] at o4
      simp only [Out.bind_ok] at o4
      unfold turnC at q4
      split at q4
      · rename_i env' hbind
        have q5 := noX_ok q4
        refine ⟨w0, H0, w4, wipeE env (own.map (·.2)), W3, p, env', rel4.wipe _, rp4, hbind, fun σ' rel' frm => ⟨wipe_eq (by rw [← rel'.len, ← wipe_length σ (own.map (·.2)), ← (rel4.wipe (own.map (·.2))).len]; exact bind_length hbind) fun j hj => frm j fun z => hj (hsl j z), ?_⟩⟩
        refine ⟨w0, H0, w4, env', W3, rel', ?_⟩
        cases q6 : evAnd fc env' W3 with
        | bad => rw [q6] at q5; cases q5
        | exc c W5 => rw [q6] at q5; cases q5
        | ok t W5 =>
        rw [q6] at q5
        simp only [Out.bind_ok] at q5
        intro v H5 w5 ext5 same5 rel5 rr5
        have relO := rel4.of rel5 ext5
        have ext35 := ext4.trans ext5
        have hD5 := ext35.kN hDl ngD (fun _ z => nomatch z)
        split at q5
        · refine ⟨true, rr_bl rr5, ?_⟩
          refine iteT ?_
          refine ⟨w0, H0, w5, env', W5, rel5, ?_⟩
          cases q7 : fe env' W5 with
          | bad => rw [q7] at q5; cases q5
          | exc c W6 => rw [q7] at q5; cases q5
          | ok r W6 =>
          rw [q7] at q5
          simp only [Out.bind_ok] at q5
          intro v6 H6 w6 ext6 same6 rel6 rr6
          split at q5
          · rename_i pv hv
            cases q5
            have relO6 := relO.of rel6 ext6
            have hD6 := ext6.kN hD5.1 hD5.2 (fun _ z => nomatch z)
            obtain ⟨w7, rp7, _, x1, x2, x3, x4⟩ := rr6.plain (w0 := w0) (H0 := H0) hv relO6.wk rel5.tr0
            have ng7 : ¬ w7.G D := x3 D _ hD5.1 hD6.2
            have rel7 := x2 env W9 σ relO6 fun a ha => relO.fresh_slot ha
            have ext7 : Ext w3 H3 w7 H6 := x1 w3 H3 (ext35.trans ext6) fun a ha => ext35.tr rel5.wk a ha
            have hacc : acc.length = xs.length := rps3.length
            refine ⟨acc, hD6.1, by rw [hacc, ← sz_line]; omega, w7, W9, acc ++ [v6], xs ++ [pv], rel7.fill ng7 hD0 nsD, ?_, (ext3.trans ext7).put rel7.wk hD ng7, fun z => same_put ((same3 z).trans ((same4.trans (same5 (hPx z).2)).trans (same6 (hPx z).1))) hD, upd_same, ng7, ?_, by simp; omega, ?_⟩
            · refine stab w3 H3 w7 _ g3 ext3 (ext7.fz.trans (Fz.put rel7.wk ng7)) fun z a u hne hu => by
                rw [upd_ne hne]
                exact (same4.trans ((same5 (hPx z).2).trans (same6 (hPx z).1))) a u hu
            · exact ((rps3.mono ext7).append (.cons rp7 .nil)).fz (Fz.put rel7.wk ng7)
            · simp only [Option.some.injEq] at o4 ⊢
              cases q8 : loopC (turnC fe tgE fc (own.map (·.2)) env) (items.drop (i + 1)) W9 with
              | bad => rw [q8] at o4; exact o4
              | exc c W8 => rw [q8] at o4; exact o4
              | ok ys W8 =>
                rw [q8] at o4
                simpa only [Out.bind_ok, List.append_assoc, List.cons_append, List.nil_append] using o4
          · cases q5
        · cases q5
          refine ⟨false, rr_bl rr5, ?_⟩
          refine iteF ?_
          refine ⟨w5, W9, acc, xs, relO, stab w3 H3 w5 H5 g3 ext3 ext35.fz fun z a u _ hu => same4.trans (same5 (hPx z).2) a u hu, ext3.trans ext35, fun z => (same3 z).trans (same4.trans (same5 (hPx z).2)), hD5.1, hD5.2, rps3.mono ext35, by omega, ?_⟩
          cases q8 : loopC (turnC fe tgE fc (own.map (·.2)) env) (items.drop (i + 1)) W9 with
          | bad => rw [q8] at o4; exact o4
          | exc c W8 => rw [q8] at o4; exact o4
          | ok ys W8 =>
            rw [q8] at o4
            simpa only [Out.bind_ok] using o4
        · cases q5
      · cases q4
    · have e : i = items.length := by omega
      subst e
      refine .inl ⟨wk.stops w3 H3 g3, ?_⟩
      rw [List.drop_length] at o4
      simp only [loopC, Out.bind_ok, List.append_nil] at o4
      exact o4 (.ref D) H3 w3 ext3 same3 rel3 ⟨D, rfl, hD, ngD, .l hDl rps3⟩
  · exact o2.elim
theorem s_comp (hc : X.calm = true) (hN : X.N.Nodup) (hK : X.K = g.K) (hit : ItE k tg es iter) (hf : ItF X) (hg : ∀ x, ikN k = some x → Gl X x) (hes : PEs X g pf Wx es fs pes)
    (ok : BlkOk X.N X.env.scope scope own) (htg : ∀ (s : Shared) (H : Hp) (C : Addr) (cl : List (Str × Addr)) (fp : List Addr), TgE (X.blk s H scope (compEnvC scope cl C X.env) fp) tgE tg)
    (hif : ∀ (s : Shared) (H : Hp) (C : Addr) (cl : List (Str × Addr)) (fp : List Addr), PTs (X.blk s H scope (compEnvC scope cl C X.env) fp) ifs (tB (tE g pf W0 pc (evAnd fc))))
    (he : ∀ (s : Shared) (H : Hp) (C : Addr) (cl : List (Str × Addr)) (fp : List Addr), PE (X.blk s H scope (compEnvC scope cl C X.env) fp) elt (tE g pf W0 pe fe))
    (hs : ∀ x, foldedSetIterable iter X.env x = pure x) (hsl : ∀ i, i ∈ ctS tgE → i ∈ own.map (·.2)) :
    PE X (.ListComp elt [⟨tg, iter, ifs, 0⟩] scope pos) (tE g pf Wx (pe && (pes && pc)) (evComp fe tgE k fs fc (own.map (·.2)) pes (pe && pc))) :=
  (pe_lc hc hN (s_iter hK hit hf hg hes) ok (fun s H C cl fp => s_tg (X := X.blk s H scope (compEnvC scope cl C X.env) fp) (g := g) (pf := pf) (t := tgE) hN hc hK (htg s H C cl fp)) hif he hs).imp (comp_imp hsl)
end
end D

/-! D13: len(set(..)) of ints and texts. -/
namespace D
open PySem PySem.Spec PyProof.Rows L2

theorem dcK_le : ∀ l : List Key, dcK l ≤ l.length
  | [] => Nat.le_refl _
  | x :: l => by
    have := dcK_le l
    unfold dcK
    split <;> simp <;> omega
theorem memK_iff {x : Key} {l : List Key} : memK x l = true ↔ x ∈ l := by
  unfold memK
  rw [List.any_eq_true]
  exact ⟨fun ⟨y, h1, h2⟩ => of_decide_eq_true h2 ▸ h1, fun h => ⟨x, h, decide_eq_true rfl⟩⟩
theorem dcK_snoc (x : Key) : ∀ l : List Key, dcK (l ++ [x]) = if memK x l = true then dcK l else dcK l + 1
  | [] => rfl
  | y :: l => by
    have ih := dcK_snoc x l
    simp only [List.cons_append, dcK, ih]
    by_cases h3 : y = x
    · subst h3
      have e1 : memK y (l ++ [y]) = true := memK_iff.mpr (by simp)
      have e2 : memK y (y :: l) = true := memK_iff.mpr (by simp)
      rw [if_pos e1, if_pos e2]
    · have e1 : memK y (l ++ [x]) = memK y l := by
        apply Bool.eq_iff_iff.mpr
        rw [memK_iff, memK_iff]
        simp [h3]
      have e2 : memK x (y :: l) = memK x l := by
        apply Bool.eq_iff_iff.mpr
        rw [memK_iff, memK_iff, List.mem_cons]
        exact ⟨fun h => h.resolve_left fun z => h3 z.symm, .inr⟩
      rw [e1, e2]
      split <;> split <;> omega
inductive KeysAre : List Value → List Key → Prop
  | nil : KeysAre [] []
  | cons {v : Value} {vs : List Value} {k : Key} {ks : List Key} (h : keyIs k v = true) (s : v.scannable = true) (t : KeysAre vs ks) : KeysAre (v :: vs) (k :: ks)
theorem KeysAre.len_eq : ∀ {vs : List Value} {ks : List Key}, KeysAre vs ks → vs.length = ks.length
  | _, _, .nil => rfl
  | _, _, .cons _ _ t => congrArg Nat.succ t.len_eq
theorem KeysAre.get : ∀ {vs : List Value} {ks : List Key}, KeysAre vs ks → ∀ (i : Nat) (v : Value), vs[i]? = some v → ∃ k, ks[i]? = some k ∧ keyIs k v = true ∧ v.scannable = true
  | _, _, .nil, i, v, h => by simp at h
  | _, _, .cons hk hs t, 0, v, h => by simp at h; subst h; exact ⟨_, rfl, hk, hs⟩
  | _, _, .cons hk hs t, i + 1, v, h => by
    simp only [List.getElem?_cons_succ] at h ⊢
    exact t.get i v h
theorem keyIs_of {k : Key} {u : Value} (r : RelV (kV k) u) : keyIs k u = true := by
  cases k with
  | inl i => obtain ⟨t, rfl⟩ := r; exact keyIs_int i t
  | inr x => obtain ⟨t, rfl⟩ := r; exact keyIs_str x t
theorem set_congr {prog : Program} {w : World} {K : Type} [DecidableEq K] {knd : KeyKind prog w K} {h : Heap} {a : Addr} {S S' : K → Bool} {n n' : Nat} (hS : h.SetOf knd a S n) (e : ∀ k, S k = S' k) (en : n = n') : h.SetOf knd a S' n' := by
  have : S = S' := funext e
  subst this; subst en; exact hS
theorem keysAre_of : ∀ {ks : List Key} {us : List Value}, Vals (ks.map kV) us → KeysAre us ks
  | [], _, .nil => .nil
  | k :: ks, _, .cons r t => by
    refine .cons (keyIs_of r) ?_ (keysAre_of t)
    cases k with
    | inl i => obtain ⟨tk, rfl⟩ := r; rfl
    | inr x => obtain ⟨tk, rfl⟩ := r; rfl

section
variable {prog : Program} {w : World} {A : Around}
/-- the set at S has just the keys of l -/
abbrev Has (w : World) (prog : Program) (h : Heap) (S : Addr) (l : List Key) : Prop := h.SetOf (mixKind prog w) S (fun k => memK k l) (dcK l)
theorem Has.kept {h h' : Heap} {S : Addr} {l : List Key} (x : Has w prog h S l) (k : ∀ o, h.get? S = some o → h'.get? S = some o) : Has w prog h' S l := by
  obtain ⟨o, es, ep, t, e, r⟩ := x
  exact ⟨o, es, ep, t, k o e, r⟩
theorem Has.snoc {h : Heap} {S : Addr} {l : List Key} {k : Key} (x : h.SetOf (mixKind prog w) S (fun k' => memK k' l || decide (k' = k)) (if memK k l = true then dcK l else dcK l + 1)) : Has w prog h S (l ++ [k]) := by
  refine set_congr x (fun k' => ?_) (dcK_snoc k l).symm
  rw [Bool.eq_iff_iff, Bool.or_eq_true, memK_iff, memK_iff, decide_eq_true_eq, List.mem_append, List.mem_singleton]
/-- the walk's rest is put in, key by key -/
theorem fill_keys {R : Result → Shared → Prop} {I S : Addr} {fp wr : List Addr} {G : Array GenState → Array GenState → Prop} {n : Nat} {P : Nat → Value → Prop} {St : Nat → Shared → Prop} (W : WalksS prog w A.in1 I fp wr G n P St) (out : S ∉ fp) {ks : List Key} (hn : ks.length = n) (few : n ≤ 1000)
    (draw : ∀ i v, P i v → ∃ k, ks[i]? = some k ∧ keyIs k v = true ∧ v.scannable = true) : ∀ (rest got : List Key) (s : Shared), got ++ rest = ks → St got.length s → Has w prog s.heap S got →
      (∀ s', Moved (S :: wr) G s s' → Has w prog s'.heap S ks → R (.ok (.ret .none)) s') → codeAny (model prog w) A (.builtin "set.update.loop" ⟨[.ref S, .ref I], []⟩) R s
  | [], got, s, e, st, hs, fin => by
    have el : got = ks := by simpa using e
    subst el
    refine codeAny_builtin PyProof.Rows.F.entry_set_update_loop ?_
    rw [Around.under_plainId PyProof.Rows.F.plain_set_update_loop _]
    change wpAny _ A.in1 (pyNext (.ref I) >>= _) _ _ s
    rw [hn] at st
    refine wpAny_bind (W.done s _ _ st fun s1 mv => ?_)
    change wpAny _ A.in1 (ret Value.none) _ _ s1
    exact wpAny_pure (fin s1 (mv.mono fun b hb => List.mem_cons_of_mem _ hb) (hs.kept fun o => mv.heap S o fun z => out (W.sub _ z)))
  | k :: rest, got, s, e, st, hs, fin => by
    have lt : got.length < n := by rw [← hn, ← e]; simp
    refine codeAny_builtin PyProof.Rows.F.entry_set_update_loop ?_
    rw [Around.under_plainId PyProof.Rows.F.plain_set_update_loop _]
    change wpAny _ A.in1 (pyNext (.ref I) >>= _) _ _ s
    refine wpAny_bind (W.item got.length s _ _ lt st fun v s1 pv st1 mv => ?_)
    obtain ⟨k1, hk, is, sc⟩ := draw _ v pv
    have ek : k1 = k := by
      rw [← e, List.getElem?_append_right (Nat.le_refl _), Nat.sub_self] at hk
      cases hk
      rfl
    subst ek
    have hs1 : Has w prog s1.heap S got := hs.kept fun o => mv.heap S o fun z => out (W.sub _ z)
    change wpAny _ A.in1 (holding [v] (setAdd S v) >>= _) _ _ s1
    unfold setAdd
    refine wpAny_bind (wpAny_holding (wpAny_holding (wpAny_bind ((mixKind prog w).pyHash (k := k1) is ?_))))
    have room : dcK got + 1 < scanBound := by
      have := dcK_le got
      unfold scanBound
      omega
    refine wpAny_setAddHashed_of (knd := mixKind prog w) (s := { s1 with toks := s1.toks + 1 }) is sc hs1 room fun h' same put => ?_
    have e2 : (got ++ [k1]) ++ rest = ks := by rw [List.append_assoc]; exact e
    refine wpAny_pure ⟨plainId_quiet PyProof.Rows.F.plain_set_update_loop _, fill_keys W out hn few draw rest (got ++ [k1]) _ e2 ?_ (Has.snoc put) fun s2 mv2 all => fin s2 ?_ all⟩
    · rw [List.length_append]
      exact W.frame _ s1 _ _ st1 (Nat.le_succ _) fun b hb o eb => by
        rw [same.2 b fun z : b = S => out (z ▸ hb)]
        exact eb
    · refine Moved.trans W.gtrans ((mv.mono fun b hb => List.mem_cons_of_mem _ hb).then_heap (Nat.le_succ _) fun b o hb eb => ?_) mv2
      rw [same.2 b fun z : b = S => hb (z ▸ List.mem_cons_self)]
      exact eb
/-- the new set, nothing in it -/
def set0 (led : Bool) : Obj := { cls := .type "set", dict := none, data := .set #[] 0 (.fresh 0 0 led) }
theorem has0 {h : Heap} {S : Addr} {led : Bool} (e : h.get? S = some (set0 led)) : Has w prog h S [] :=
  ⟨_, #[], 0, _, e, ⟨rfl, rfl, rfl⟩, rfl, fun e he => by simp at he, fun k => by simp [memK], by unfold scanBound; simp, by rfl, rfl⟩
/-- behind set.__init__ -/
def Made (w : World) (prog : Program) (ks : List Key) (s : Shared) (r : Value) (s2 : Shared) : Prop := r = .none ∧ ∃ h' tk, s2 = { s with heap := h', toks := tk } ∧ Has w prog h' s.heap.objs.size ks ∧ ∀ b o, b < s.heap.objs.size → s.heap.get? b = some o → h'.get? b = some o
set_option maxHeartbeats 3200000 in
/-- the body of set.__init__, given a list of keys -/
theorem init_keys {A1 : Around} {E : Value → Shared → Prop} {s : Shared} {l : Addr} {items : Array Value} {ks : List Key} {led : Bool} (hh : A1.handled = none) (hl : s.heap.IsList l items) (hi : KeysAre items.toList ks) (few : ks.length ≤ 1000) :
    wpAny (model prog w) A1 (Builtin.«set.__init__» ⟨[.ref s.heap.objs.size, .ref l], []⟩) (fun fin s2 => ∃ v, fin = .done (.ret v) ∧ Made w prog ks s v s2) E { s with heap := s.heap.push (set0 led) } := by
  have at0 : (s.heap.push (set0 led)).get? s.heap.objs.size = some (set0 led) := Heap.get?_push_size _ rfl
  obtain ⟨⟨oc, od, dt, osl⟩, lo, lc, len, ld⟩ := hl
  cases lc
  cases ld
  have low := Heap.lt_size lo
  have lo1 : (s.heap.push (set0 led)).get? l = some { cls := .type "list", dict := od, data := .seq items len, slots := osl } := Heap.get?_push_of_some _ lo
  have asL : (s.heap.push (set0 led)).IsList l items := ⟨_, lo1, rfl, len, rfl⟩
  have isT : Shared.TypeIs { s with heap := s.heap.push (set0 led) } (.ref s.heap.objs.size) "set" := ⟨_, at0, rfl⟩
  have n1 := PySem.F.sub_list_set
  have n2 := PySem.F.sub_list_frozenset
  have n3 : (Value.type "list" == Value.type "dict") = false := by decide
  have n4 := PySem.F.called_set.sub
  unfold Builtin.«set.__init__» noKeywords Builtin.Frozenset.updateFrom
  generalize hPI : pyIter = PI
  wp_walk
  subst hPI
  refine wpAny_pyIter_list asL ?_
  refine wpAny_bind (wpAny_runValue ?_)
  have calm : A1.in1.handled = none := by simp [hh]
  have apart : l ≠ (s.heap.push (set0 led)).objs.size := by
    rw [Heap.size_push]
    exact Nat.ne_of_lt (Nat.lt_succ_of_lt low)
  have out : s.heap.objs.size ∉ [(s.heap.push (set0 led)).objs.size, l] := by
    rw [Heap.size_push]
    simp only [List.mem_cons, List.not_mem_nil, or_false, not_or]
    exact ⟨Nat.ne_of_lt (Nat.lt_succ_self _), Nat.ne_of_gt low⟩
  have len2 : ks.length = items.size := by rw [← hi.len_eq, Array.length_toList]
  refine fill_keys ((Walks.list calm _ l apart items).toS) out len2 (by omega) (fun i v hv => hi.get i v (by rw [Array.getElem?_toList]; exact hv)) ks [] _ rfl ⟨⟨_, Heap.get?_push_size _ rfl, rfl, rfl⟩, asL.push _⟩ (has0 (Heap.get?_push_of_some _ at0)) fun s2 mv all => ?_
  obtain ⟨h2, g2, d2, t2, o2⟩ := s2
  have eg := mv.gens
  have ed := mv.drawn
  have eo := mv.os
  simp only at eg ed eo
  subst eg ed eo
  refine wpAny_pure (wpAny_pure ⟨_, rfl, rfl, h2, t2, rfl, all, fun b o hb e => mv.heap b o ?_ (Heap.get?_push_of_some _ (Heap.get?_push_of_some _ e))⟩)
  rw [Heap.size_push]
  simp only [List.mem_cons, List.not_mem_nil, or_false, not_or]
  exact ⟨Nat.ne_of_lt hb, Nat.ne_of_lt (Nat.lt_succ_of_lt hb)⟩
set_option maxHeartbeats 3200000 in
theorem call_set_keys {E : Value → Shared → Prop} {s : Shared} {l : Addr} {items : Array Value} {ks : List Key} {Q : Value → Shared → Prop} (hh : A.handled = none) (hl : s.heap.IsList l items) (hi : KeysAre items.toList ks) (few : ks.length ≤ 1000)
    (h : ∀ (h' : Heap) (tk : Nat), Has w prog h' s.heap.objs.size ks → (∀ b o, b < s.heap.objs.size → s.heap.get? b = some o → h'.get? b = some o) → Q (.ref s.heap.objs.size) { s with heap := h', toks := tk }) :
    wpAny (model prog w) A (call (.type "set") [.ref l]) Q E s := by
  have c := PySem.F.called_set
  obtain ⟨c0, c1, c2⟩ := c.mro
  have c3 := c.made
  have c4 := c.sub
  have c5 := c.notType
  have c6 := c.canCreate
  have c7 := PySem.F.typeCall_set_1 (.ref l)
  refine wpAny_call (codeAny_of_tree ?_)
  change wpAny _ _ (callAny (.type "set") _) _ _ _
  refine wpAny_pure ⟨Code.quiet_builtin _ (by decide +kernel), codeAny_builtin PySem.F.entry_type_call ?_⟩
  rw [Around.under_plain (weight_type_call_type "set" [.ref l] []) rfl]
  repeat (any_goals (first | assumption | wp_step))
  refine codeAny_mono (code_set_new_1 (.ref l) (E := E) (Q₁ := fun u s1 => ∃ led : Bool, u = .ref s.heap.objs.size ∧ s1 = { s with heap := s.heap.push (set0 led) }) fun led => ⟨led, rfl, rfl⟩) fun r s1 hr => ?_
  rcases r with e | fl
  · exact hr
  cases fl <;> first | exact False.elim hr | skip
  obtain ⟨led, rfl, rfl⟩ := hr
  have at0 : (s.heap.push (set0 led)).get? s.heap.objs.size = some (set0 led) := Heap.get?_push_size _ rfl
  have isT : Shared.TypeIs { s with heap := s.heap.push (set0 led) } (.ref s.heap.objs.size) "set" := ⟨_, at0, rfl⟩
  have c8 := c.init.lookup
  have c9 := c.init.bind (.ref s.heap.objs.size)
  repeat (any_goals (first | assumption | wp_step))
  refine codeAny_mono (codeAny_call_builtin (R := wants (Made w prog ks s) E) c.init.plain PySem.F.entry_set_init (check_set_init_1 isT ?_)) fun r2 s2 hr2 => ?_
  · exact wpAny_mono (init_keys (A1 := A.in1.in1) (E := E) (by simp [hh]) hl hi few) (fun fin s2 ⟨v, e, m⟩ => by subst e; exact m) (fun _ _ z => z)
  · rcases r2 with e | fl
    · exact hr2
    cases fl <;> first | exact False.elim hr2 | skip
    obtain ⟨rfl, h', tk, rfl, hs, kp⟩ := hr2
    repeat (any_goals (first | assumption | wp_step))
    exact h _ _ hs kp
end
section
variable {X : Cx} {g : Gx} {pf p : Bool} {Wx : WX} {f : F} {a : Expr} {p1 p2 q pos : Pos}
theorem s_lenset (hc : X.calm = true) (hg : Gl X "len") (hm : X.mg "len" = none) (hg2 : Gl X "set") (hm2 : X.mg "set" = none) (h : PE X a (tE g pf Wx p f)) (h' : PT X a (tB (tE g pf Wx p f)))
    (na : starEach [a] X.env = (false, eval a X.env) :: starEach [] X.env) : PE X (.Call (.Name "len" p1) [.Call (.Name "set" p2) [a] [] q] [] pos) (tE g pf Wx (p && true) (evBlt (bltV .lenset) [f] (p && true))) := by
  have key : PE X (.Call (.Name "len" p1) [.Call (.Name "set" p2) [a] [] q] [] pos) (tCB (fun vs H Q => ∃ w ps r, Lks g w H vs ps ∧ bltV .lenset ps = some r ∧ Res g w H r Q) (tAr g pf Wx (p && true) [f])) := by
    refine ⟨fun pins s σ H Q I h0 => ?_⟩
    refine Call_ (ld_blt I hg hm boot_len ?_)
    refine PyProof.Rows.callWith_builtin1 (PyProof.Rows.args_cons ?_ rfl) rfl rfl
    refine Call_ (ld_blt I hg2 hm2 boot_set ?_)
    refine PyProof.Rows.callWith_type1 (PyProof.Rows.args_cons (thn (h.run pins s σ H _ I (tAr_one h0 (p' := p) and1)) fun v s1 ⟨x, H1, I1, r1, q1⟩ => PyProof.Rows.args_nil ?_) na) na rfl
    obtain ⟨w, ps, r, lk, e, res⟩ := q1
    cases lk with
    | cons l t =>
      cases t
      rename_i pv
      cases pv <;> simp only [bltV] at e <;> try (cases e; done)
      rename_i xs
      cases q2 : toKeys xs with
      | none => rw [q2] at e; cases e
      | some ks =>
      rw [q2] at e
      simp only at e
      split at e
      · rename_i hl
        cases e
        obtain ⟨l, vs, rfl, e1, rp⟩ := l.lst
        have ev := toKeys_kv q2 rp
        subst ev
        cases r1
        obtain ⟨its, rv, pl, hz⟩ := I1.list (SqL.of e1)
        refine call_set_keys (I1.ok.hd hc) pl.isList (by simpa using keysAre_of rv) hl fun h2 tk hS hk => ?_
        refine PyProof.Rows.args_nil ?_
        have hl2 : its.toArray.size = ks.length := by rw [List.size_toArray, ← rv.length, List.length_map]
        obtain ⟨o, es, ep, t, ho, hex, hd, _, _, _, hf, hn⟩ := hS
        have I2 : Inv X pins σ H1 { s1 with heap := h2, toks := tk } := I1.kept fun b o e => hk b o (Heap.lt_size e) e
        have hle := dcK_le ks
        exact call_len_set ho hex hd hf (by rw [hn]; omega) ⟨.int (dcK ks : Nat), H1, I2.tok _, ⟨_, by rw [hn]⟩, res.va _ _ rfl (.int _)⟩
      · cases e
  exact key.imp (blt_imp fun w H vs ps q Q lk e res => ⟨w, ps, q, lk, e, res⟩)
end
end D

/-! D13S: sorted(set(..)) of ints. -/
namespace D
open PySem PySem.Spec PyProof.Rows L2
section
variable {prog : Program} {w : World} {A : Around}
def ledW (w : World) : Bool := !w.params.followText "set-order"
/-- behind set.__init__ -/
def MadeI (w : World) (ns : List Int) (s : Shared) (r : Value) (s2 : Shared) : Prop := r = .none ∧ ∃ h' tk c, s2 = { s with heap := h', toks := tk } ∧ (SetR w h' s.heap.objs.size (fun j => decide (j ∈ ns)) c ∧ c ≤ ns.length) ∧ ∀ b o, b < s.heap.objs.size → s.heap.get? b = some o → h'.get? b = some o
set_option maxHeartbeats 3200000 in
theorem init_ints {A1 : Around} {E : Value → Shared → Prop} {s : Shared} {l : Addr} {items : Array Value} {ns : List Int} (hh : A1.handled = none) (hl : s.heap.IsList l items) (hi : IntsAre items.toList ns) (room : ns.length + 1 < scanBound) :
    wpAny (model prog w) A1 (Builtin.«set.__init__» ⟨[.ref s.heap.objs.size, .ref l], []⟩) (fun fin s2 => ∃ v, fin = .done (.ret v) ∧ MadeI w ns s v s2) E { s with heap := s.heap.push (set0 (ledW w)) } := by
  generalize hLW : ledW w = led
  have at0 : (s.heap.push (set0 led)).get? s.heap.objs.size = some (set0 led) := Heap.get?_push_size _ rfl
  obtain ⟨⟨oc, od, dt, osl⟩, lo, lc, len, ld⟩ := hl
  cases lc
  cases ld
  have low := Heap.lt_size lo
  have lo1 : (s.heap.push (set0 led)).get? l = some { cls := .type "list", dict := od, data := .seq items len, slots := osl } := Heap.get?_push_of_some _ lo
  have asL : (s.heap.push (set0 led)).IsList l items := ⟨_, lo1, rfl, len, rfl⟩
  have isT : Shared.TypeIs { s with heap := s.heap.push (set0 led) } (.ref s.heap.objs.size) "set" := ⟨_, at0, rfl⟩
  have n1 := PySem.F.sub_list_set
  have n2 := PySem.F.sub_list_frozenset
  have n3 : (Value.type "list" == Value.type "dict") = false := by decide
  have n4 := PySem.F.called_set.sub
  unfold Builtin.«set.__init__» noKeywords Builtin.Frozenset.updateFrom
  generalize hPI : pyIter = PI
  wp_walk
  subst hPI
  refine wpAny_pyIter_list asL ?_
  refine wpAny_bind (wpAny_runValue ?_)
  have calm : A1.in1.handled = none := by simp [hh]
  have apart : l ≠ (s.heap.push (set0 led)).objs.size := by
    rw [Heap.size_push]
    exact Nat.ne_of_lt (Nat.lt_succ_of_lt low)
  have out : s.heap.objs.size ∉ [(s.heap.push (set0 led)).objs.size, l] := by
    rw [Heap.size_push]
    simp only [List.mem_cons, List.not_mem_nil, or_false, not_or]
    exact ⟨Nat.ne_of_lt (Nat.lt_succ_self _), Nat.ne_of_gt low⟩
  have len2 : items.size = ns.length := by
    have q := hi.length
    rwa [Array.length_toList] at q
  have drawn : ∀ (i : Nat) (v : Value), items[i]? = some v → ∃ k t, ns[i]? = some k ∧ v = .int k t := fun i v hv => by
    have il : i < ns.length := by rw [← len2]; exact (Array.getElem?_eq_some_iff.mp hv).1
    obtain ⟨t, e⟩ := hi.int_at i v (by rw [Array.getElem?_toList]; exact hv)
    exact ⟨ns[i], t, List.getElem?_eq_getElem il, by rw [e, List.getD_eq_getElem?_getD, List.getElem?_eq_getElem il]; rfl⟩
  refine set_update_ints ((Walks.list calm _ l apart items).toS) s.heap.objs.size out ns len2 room drawn (items.size - 0) 0 _ (by omega) (Nat.zero_le _) ⟨⟨_, Heap.get?_push_size _ rfl, rfl, rfl⟩, asL.push _⟩ ⟨0, Nat.le_refl 0, setR_new_at (by rw [← hLW] at at0 ⊢; exact Heap.get?_push_of_some _ at0)⟩ fun s2 c mv cl all => ?_
  obtain ⟨h2, g2, d2, t2, o2⟩ := s2
  have eg := mv.gens
  have ed := mv.drawn
  have eo := mv.os
  simp only at eg ed eo
  subst eg ed eo
  refine wpAny_pure (wpAny_pure ⟨_, rfl, rfl, h2, t2, c, rfl, ⟨all, by omega⟩, fun b o hb e => mv.heap b o ?_ (Heap.get?_push_of_some _ (Heap.get?_push_of_some _ e))⟩)
  rw [Heap.size_push]
  simp only [List.mem_cons, List.not_mem_nil, or_false, not_or]
  exact ⟨Nat.ne_of_lt hb, Nat.ne_of_lt (Nat.lt_succ_of_lt hb)⟩
set_option maxHeartbeats 3200000 in
theorem call_set_ints {E : Value → Shared → Prop} {s : Shared} {l : Addr} {items : Array Value} {ns : List Int} {Q : Value → Shared → Prop} (hh : A.handled = none) (hl : s.heap.IsList l items) (hi : IntsAre items.toList ns) (room : ns.length + 1 < scanBound)
    (h : ∀ (h' : Heap) (tk c : Nat), SetR w h' s.heap.objs.size (fun j => decide (j ∈ ns)) c → c ≤ ns.length → (∀ b o, b < s.heap.objs.size → s.heap.get? b = some o → h'.get? b = some o) → Q (.ref s.heap.objs.size) { s with heap := h', toks := tk }) :
    wpAny (model prog w) A (call (.type "set") [.ref l]) Q E s := by
  have c := PySem.F.called_set
  obtain ⟨c0, c1, c2⟩ := c.mro
  have c3 := c.made
  have c4 := c.sub
  have c5 := c.notType
  have c6 := c.canCreate
  have c7 := PySem.F.typeCall_set_1 (.ref l)
  refine wpAny_call (codeAny_of_tree ?_)
  change wpAny _ _ (callAny (.type "set") _) _ _ _
  refine wpAny_pure ⟨Code.quiet_builtin _ (by decide +kernel), codeAny_builtin PySem.F.entry_type_call ?_⟩
  rw [Around.under_plain (weight_type_call_type "set" [.ref l] []) rfl]
  repeat (any_goals (first | assumption | wp_step))
  refine codeAny_mono (code_set_led1 (.ref l) (E := E) (Q₁ := fun u s1 => u = .ref s.heap.objs.size ∧ s1 = { s with heap := s.heap.push (set0 (ledW w)) }) ⟨rfl, rfl⟩) fun r s1 hr => ?_
  rcases r with e | fl
  · exact hr
  cases fl <;> first | exact False.elim hr | skip
  obtain ⟨rfl, rfl⟩ := hr
  have at0 : (s.heap.push (set0 (ledW w))).get? s.heap.objs.size = some (set0 (ledW w)) := Heap.get?_push_size _ rfl
  have isT : Shared.TypeIs { s with heap := s.heap.push (set0 (ledW w)) } (.ref s.heap.objs.size) "set" := ⟨_, at0, rfl⟩
  have c8 := c.init.lookup
  have c9 := c.init.bind (.ref s.heap.objs.size)
  repeat (any_goals (first | assumption | wp_step))
  refine codeAny_mono (codeAny_call_builtin (R := wants (MadeI w ns s) E) c.init.plain PySem.F.entry_set_init (check_set_init_1 isT ?_)) fun r2 s2 hr2 => ?_
  · exact wpAny_mono (init_ints (A1 := A.in1.in1) (E := E) (by simp [hh]) hl hi room) (fun fin s2 ⟨v, e, m⟩ => by subst e; exact m) (fun _ _ z => z)
  · rcases r2 with e | fl
    · exact hr2
    cases fl <;> first | exact False.elim hr2 | skip
    obtain ⟨rfl, h', tk, cc, rfl, ⟨hs, hc⟩, kp⟩ := hr2
    repeat (any_goals (first | assumption | wp_step))
    exact h _ _ _ hs hc kp
end
section
variable {X : Cx} {g : Gx} {pf p : Bool} {Wx : WX} {f : F} {a : Expr} {p1 p2 q pos : Pos}
def rSetI (K : PySem.W.Frag) (w : World) : List V → Hp → VK → Prop := fun xs H Q => ∃ (l : Addr) (ns : List Int), xs = [V.ref l] ∧ SqL K H l (ns.map V.int) ∧ ns.length ≤ 60 ∧ ∀ (p : Addr) (c : Nat), H p = none → c ≤ ns.length → Q (.ref p) (upd H p (SetO w p (fun j => decide (j ∈ ns)) c))
theorem intsAre_of {ns : List Int} {us : List Value} (h : Vals (ns.map V.int) us) : IntsAre us ns := by
  induction ns generalizing us with
  | nil => cases h; exact .nil
  | cons n ns ih =>
    cases h with
    | cons r t =>
      obtain ⟨tk, rfl⟩ := r
      exact .cons _ _ (ih t)
theorem cr_setI (hc : X.calm = true) : CallR X (.type "set") (rSetI X.K X.w) := by
  intro pins s σ H xs us Q I r h
  obtain ⟨l, ns, rfl, sq, few, k⟩ := h
  obtain ⟨u, rfl, ru⟩ := vals1 r
  cases ru
  obtain ⟨its, rv, pl, hz⟩ := I.list sq
  refine call_set_ints (I.ok.hd hc) pl.isList (by simpa using intsAre_of rv) (by unfold scanBound; omega) fun h' tk c hs hcl hk => ?_
  exact ⟨.ref _, upd H s.heap.objs.size (SetO X.w s.heap.objs.size (fun j => decide (j ∈ ns)) c), I.laid (t' := tk) (fun b u e => hk b u (Heap.lt_size e) e) (Nat.le_refl _) (setO_new hs), rfl, k _ _ (I.hok.fresh (Nat.le_refl _)) hcl⟩
/-- a built-in's call, what it lays on its way forgotten -/
theorem blt_imp2 {fs : List F} {fv : List PV → Option R} {r : List V → Hp → VK → Prop} (hr : ∀ (w : Wd) (H : Hp) (vs : List V) (ps : List PV) (q : R) (Q : VK), Lks g w H vs ps → fv ps = some q → (∀ b o, H b = none → Res g w (upd H b o) q Q) → r vs H Q) :
    ∀ σ H Q, tE g pf Wx p (evBlt fv fs p) σ H Q → tCB r (tAr g pf Wx p fs) σ H Q := fun σ H Q ⟨w0, H0, w, env, W, rel, o⟩ => ⟨w0, H0, w, env, W, rel, by
  unfold evBlt at o
  cases q : evs fs env W with
  | bad => rw [q] at o; exact o
  | exc c W1 => rw [q] at o; exact o
  | ok rs W1 =>
    rw [q] at o
    simp only [Out.bind_ok] at o
    intro vs H1 w1 ext s rel1 rrs hl
    split at o
    · rename_i hb
      cases q2 : fv (rs.map R.look) with
      | none => rw [q2] at o; exact o.elim
      | some z =>
        rw [q2] at o
        refine hr w1 H1 vs _ z Q (rrs hb).lks q2 fun b ob hn => ?_
        have e2 := ext.trans (Ext.laid (o := ob) rel1.wk hn)
        exact (rel1.laid hn).res (o.shift e2 (fun h => (s h).trans (same_laid hn)) (e2.tr (rel1.laid (o := ob) hn).wk))
    · exact o.elim⟩
theorem srtU_ok {l ns : List Int} (h1 : ns.Pairwise (· < ·)) (h2 : ∀ k, k ∈ ns ↔ k ∈ l) : ns = srtU l := by
  have key : ∀ (a b : List Int), a.Pairwise (· < ·) → b.Pairwise (· < ·) → (∀ k, k ∈ a ↔ k ∈ b) → a = b := by
    intro a
    induction a with
    | nil =>
      intro b _ _ h
      cases b with
      | nil => rfl
      | cons y b => exact absurd ((h y).mpr (by simp)) (by simp)
    | cons x a ih =>
      intro b ha hb h
      cases b with
      | nil => exact absurd ((h x).mp (by simp)) (by simp)
      | cons y b =>
        obtain ⟨a1, a2⟩ := List.pairwise_cons.mp ha
        obtain ⟨b1, b2⟩ := List.pairwise_cons.mp hb
        have exy : x = y := by
          rcases List.mem_cons.mp ((h x).mp (by simp)) with e | e
          · exact e
          · rcases List.mem_cons.mp ((h y).mpr (by simp)) with e2 | e2
            · exact e2.symm
            · have := b1 x e
              have := a1 y e2
              omega
        subst exy
        rw [ih b a2 b2 fun k => ?_]
        constructor
        · intro hk
          rcases List.mem_cons.mp ((h k).mp (by simp [hk])) with e | e
          · have := a1 k hk
            omega
          · exact e
        · intro hk
          rcases List.mem_cons.mp ((h k).mpr (by simp [hk])) with e | e
          · have := b1 k hk
            omega
          · exact e
  have ins : ∀ (x : Int) (l : List Int), l.Pairwise (· < ·) → (insU x l).Pairwise (· < ·) ∧ ∀ k, k ∈ insU x l ↔ k = x ∨ k ∈ l := by
    intro x l
    induction l with
    | nil => intro _; exact ⟨by simp [insU], by simp [insU]⟩
    | cons y l ih =>
      intro hp
      obtain ⟨p1, p2⟩ := List.pairwise_cons.mp hp
      obtain ⟨i1, i2⟩ := ih p2
      simp only [insU]
      split
      · rename_i hxy
        refine ⟨List.pairwise_cons.mpr ⟨fun z hz => ?_, hp⟩, by simp⟩
        rcases List.mem_cons.mp hz with e | e
        · rw [e]; exact hxy
        · have := p1 z e
          omega
      · split
        · rename_i _ hxy
          subst hxy
          refine ⟨hp, fun k => ?_⟩
          simp
        · rename_i n1 n2
          refine ⟨List.pairwise_cons.mpr ⟨fun z hz => ?_, i1⟩, fun k => ?_⟩
          · rcases (i2 z).mp hz with e | e
            · omega
            · exact p1 z e
          · rw [List.mem_cons, i2 k, List.mem_cons]
            constructor
            · rintro (h | h | h)
              · exact .inr (.inl h)
              · exact .inl h
              · exact .inr (.inr h)
            · rintro (h | h | h)
              · exact .inr (.inl h)
              · exact .inl h
              · exact .inr (.inr h)
  have all : ∀ l : List Int, (srtU l).Pairwise (· < ·) ∧ ∀ k, k ∈ srtU l ↔ k ∈ l := by
    intro l
    induction l with
    | nil => exact ⟨by simp [srtU], by simp [srtU]⟩
    | cons x l ih =>
      obtain ⟨i1, i2⟩ := ins x (srtU l) ih.1
      exact ⟨i1, fun k => by rw [srtU, i2 k, ih.2 k, List.mem_cons]⟩
  exact key _ _ h1 (all l).1 fun k => (h2 k).trans ((all l).2 k).symm
theorem s_sortset (hK : X.K = g.K) (hc : X.calm = true) (hg : Gl X "sorted") (hm : X.mg "sorted" = none) (hg2 : Gl X "set") (hm2 : X.mg "set" = none) (h : PE X a (tE g pf Wx p f)) (h' : PT X a (tB (tE g pf Wx p f)))
    (na : starEach [a] X.env = (false, eval a X.env) :: starEach [] X.env) : PE X (.Call (.Name "sorted" p1) [.Call (.Name "set" p2) [a] [] q] [] pos) (tE g pf Wx (p && true) (evBlt (bltV .sortSet) [f] (p && true))) := by
  have ha := (PEs.cons h h' na PEs.nil).args
  have i1 := pe_callTy (pos := q) (p := p2) (cr_setI hc) hg2 hm2 rfl ha (by decide) (by decide) na rfl
  have i2 := pe_callB (pos := pos) (p := p1) (cr_sortedSet hc) hg hm rfl (pa_cons i1 pa_nil rfl) (by decide) (by decide) rfl rfl
  refine i2.imp fun σ H Q z => ?_
  exact blt_imp2 (g := g) (pf := pf) (Wx := Wx) (p := p && true) (fs := [f]) (fv := bltV .sortSet) (r := fun vs H1 Q => rSetI X.K X.w vs H1 fun x H2 => rSortedSet X.w [x] H2 Q) (fun w H vs ps q Q lk e res => by
    cases lk with
    | nil => simp [bltV] at e
    | cons l t =>
      cases t with
      | cons l2 t2 =>
        rename_i pv _ _ _ _
        cases pv <;> simp [bltV] at e
      | nil =>
      rename_i pv
      cases pv <;> simp only [bltV] at e <;> try (cases e; done)
      rename_i xs
      cases q2 : asInts xs with
      | none => rw [q2] at e; cases e
      | some ns =>
        rw [q2] at e
        simp only at e
        split at e
        · rename_i few
          cases e
          obtain ⟨la, vs, rfl, e1, rp⟩ := l.lst
          have ev := ints_of q2 rp
          subst ev
          refine ⟨la, ns, rfl, SqL.of e1, few, fun b c hb hcl => ⟨b, _, c, rfl, upd_same, by omega, fun ms b2 hp hmem _ hb2 => ?_⟩⟩
          have := srtU_ok hp (l := ns) (fun k => (hmem k).trans (by simp))
          subst this
          exact (res b _ hb).fr _ b2 _ rfl hb2 (.l (rps_ints _))
        · cases e) σ H Q z
end
end D

/-! D14: statements. -/
namespace D
open PySem PySem.Spec PyProof.Rows L2

/-- what is owed of a statement's outcome -/
def oS (g : Gx) (pf : Bool) (Wx : WX) (w0 : Wd) (H0 : Hp) (w : Wd) (H : Hp) (D : Ends) : SO → Prop
  | .ok .nx env W => ∀ w' σ' H', Fz w H w' H' → Rel g pf w0 H0 w' env W σ' H' → D.nx σ' H'
  | .ok .brk env W => ∀ w' σ' H', Fz w H w' H' → Rel g pf w0 H0 w' env W σ' H' → D.bk σ' H'
  | .ok .cont env W => ∀ w' σ' H', Fz w H w' H' → Rel g pf w0 H0 w' env W σ' H' → D.ct σ' H'
  | .ok (.ret r) env W => ∀ v w' σ' H', Rel g pf w0 H0 w' env W σ' H' → r.isB = false → RR g w' H0 H' v r → D.rt v H'
  | .exc c env W => c < g.nx → ∀ w' σ' H', Fz w H w' H' → Rel g pf w0 H0 w' env W σ' H' → Wx (.ref (g.ca c)) none σ' H'
  | .bad => False
def tS (g : Gx) (pf : Bool) (Wx : WX) (f : S) : TS := fun D σ H => ∃ w0 H0 w env W, Rel g pf w0 H0 w env W σ H ∧ oS g pf Wx w0 H0 w H D (f env W)
theorem _root_.L2.PS.imp {X : Cx} {st : Stmt} {t t' : TS} (h : PS X st t) (q : ∀ D σ H, t' D σ H → t D σ H) : PS X st t' := ⟨fun pins s σ H D I z => h.run pins s σ H D I (q D σ H z)⟩
theorem _root_.L2.PSs.imp {X : Cx} {st : List Stmt} {t t' : TS} (h : PSs X st t) (q : ∀ D σ H, t' D σ H → t D σ H) : PSs X st t' := ⟨fun pins s σ H D I z => h.run pins s σ H D I (q D σ H z)⟩
section
variable {g : Gx} {pf p : Bool} {Wx : WX} {w0 w w' w1 : Wd} {H0 H H' H1 : Hp} {env env' : Ev} {W W' : Om} {σ σ' : L2.St} {D D' : Ends}
theorem oS.shift {o : SO} (h : oS g pf Wx w0 H0 w H D o) (e : Fz w H w1 H1) : oS g pf Wx w0 H0 w1 H1 D o := by
  cases o with
  | bad => exact h
  | exc c env W => exact fun hc w' σ' H' e' r => h hc w' σ' H' (e.trans e') r
  | ok f env W =>
    cases f with
    | nx => exact fun w' σ' H' e' r => h w' σ' H' (e.trans e') r
    | brk => exact fun w' σ' H' e' r => h w' σ' H' (e.trans e') r
    | cont => exact fun w' σ' H' e' r => h w' σ' H' (e.trans e') r
    | ret r => exact h
/-- an expression first -/
theorem oE.st {o : Out R} {k : R → Om → SO} (h : oS g pf Wx w0 H0 w H D (o.st env k)) {Q : VK} (rel : Rel g pf w0 H0 w env W σ H)
    (hk : ∀ x W1 v H1 w1, o = .ok x W1 → Rel g pf w0 H0 w1 env W1 σ H1 → Ext w H w1 H1 → (p = true → Same H H1) → RR g w1 H H1 v x → oS g pf Wx w0 H0 w1 H1 D (k x W1) → Q v H1) : oE g pf Wx w0 H0 env σ w H p Q o := by
  cases o with
  | bad => exact h
  | exc c W1 => exact fun hc H' w' e r => h hc w' σ H' e.fz r
  | ok x W1 => exact fun v H1 w1 e s r rr => hk x W1 v H1 w1 rfl r e s rr (h.shift e.fz)
theorem Rel.kill1 (rel : Rel g pf w0 H0 w env W σ H) (i : Nat) : Rel g pf w0 H0 w (env.set i .un) W σ H where
  wk := rel.wk
  ext := rel.ext
  tr0 := rel.tr0
  pur := rel.pur
  len := by simp [rel.len]
  sl := fun j t h => by
    by_cases e : i = j
    · subst e
      by_cases hi : i < env.length
      · rw [List.getElem?_set_self hi] at h
        cases h
        trivial
      · rw [List.getElem?_eq_none (by simpa using hi)] at h
        cases h
    · rw [List.getElem?_set_ne e] at h
      exact rel.sl j t h
  dj := fun j l c' d b ne h1 h2 h3 => by
    have own : ∀ (m : Nat) (cm : Ct), (env.set i .un)[m]? = some (.own cm) → env[m]? = some (.own cm) := fun m cm h => by
      by_cases em : i = m
      · subst em
        by_cases hi : i < env.length
        · rw [List.getElem?_set_self hi] at h
          cases h
        · rw [List.getElem?_eq_none (by simpa using hi)] at h
          cases h
      · rw [List.getElem?_set_ne em] at h; exact h
    exact rel.dj j l c' d b ne (own j _ h1) (own l _ h2) h3
theorem Rel.kill (rel : Rel g pf w0 H0 w env W σ H) : ∀ vs : List Nat, Rel g pf w0 H0 w (wipeE env vs) W σ H
  | [] => rel
  | v :: vs => (Rel.kill rel vs).kill1 v
theorem Rel.ns (rel : Rel g pf w0 H0 w env W σ H) : ∀ a, H a = none → ∀ (i : Nat) (c : Ct), env[i]? = some (.own c) → σ[i]? ≠ some (some (V.ref a)) := fun a ha => rel.fresh_slot ha
/-- a slot takes a list or dict of its own -/
theorem Rel.setOwn {a : Addr} {c : Ct} (rel : Rel g pf w0 H0 w env W σ H) (i : Nat) (h0 : H0 a = none) (ng : ¬ w.G a) (k : CtOk g w H a c) (ns : ∀ (j : Nat) (c : Ct), j ≠ i → env[j]? = some (.own c) → σ[j]? ≠ some (some (V.ref a))) : Rel g pf w0 H0 w (env.set i (.own c)) W (σ.set i (some (.ref a))) H where
  wk := rel.wk
  ext := rel.ext
  tr0 := rel.tr0
  pur := rel.pur
  len := by simp [rel.len]
  sl := fun j t h => by
    by_cases e : i = j
    · subst e
      by_cases hi : i < env.length
      · rw [List.getElem?_set_self hi] at h
        cases h
        exact ⟨a, by rw [List.getElem?_set_self (by rw [← rel.len]; exact hi)], h0, ng, k⟩
      · rw [List.getElem?_eq_none (by simpa using hi)] at h
        cases h
    · rw [List.getElem?_set_ne e] at h ⊢
      exact rel.sl j t h
  dj := fun j l c' d b ne h1 h2 h3 => by
    have jn : j < env.length := by
      have := (List.getElem?_eq_some_iff.mp h1).1
      simpa using this
    have ln : l < env.length := by
      have := (List.getElem?_eq_some_iff.mp h2).1
      simpa using this
    by_cases ej : i = j
    · subst ej
      rw [List.getElem?_set_self (by rw [← rel.len]; exact jn)] at h3
      cases h3
      rw [List.getElem?_set_ne ne] at h2 ⊢
      exact ns l d (Ne.symm ne) h2
    · rw [List.getElem?_set_ne ej] at h1 h3
      by_cases el : i = l
      · subst el
        rw [List.getElem?_set_self (by rw [← rel.len]; exact ln)]
        intro h4
        cases h4
        exact ns j c' ne h1 h3
      · rw [List.getElem?_set_ne el] at h2 ⊢
        exact rel.dj j l c' d b ne h1 h2 h3
/-- what a slot owns is written -/
theorem Rel.write {a : Addr} {c c' : Ct} {o : HO} (rel : Rel g pf w0 H0 w env W σ H) {i : Nat} (e : env[i]? = some (.own c)) (ev : σ[i]? = some (some (.ref a))) (k : CtOk g w (upd H a o) a c') :
    Rel g pf w0 H0 w (env.set i (.own c')) W σ (upd H a o) ∧ Fz w H w (upd H a o) := by
  obtain ⟨b, e1, h0, ng, _⟩ := rel.sl i _ e
  rw [ev] at e1
  cases e1
  have fz : Fz w H w (upd H a o) := Fz.put rel.wk ng
  have hi : i < env.length := (List.getElem?_eq_some_iff.mp e).1
  refine ⟨⟨rel.wk.put ng, rel.ext.put rel.wk h0 ng, fun b h => rel.tr0 b (upd_none h), fun h => same_put (rel.pur h) h0, by simp [rel.len], fun j s h => ?_, fun j l cj d b ne h1 h2 h3 => ?_⟩, fz⟩
  · by_cases ej : i = j
    · subst ej
      rw [List.getElem?_set_self hi] at h
      cases h
      exact ⟨a, ev, h0, ng, k⟩
    · rw [List.getElem?_set_ne ej] at h
      have q := rel.sl j s h
      cases s with
      | un => trivial
      | val p => obtain ⟨v, e1, k⟩ := q; exact ⟨v, e1, k.fz fz⟩
      | own cc =>
        obtain ⟨b, e1, hn, ngb, kk⟩ := q
        have nb : b ≠ a := fun z => rel.dj i j c cc a ej e h ev (z ▸ e1)
        refine ⟨b, e1, hn, ngb, ?_⟩
        cases kk with
        | l e1 r => exact .l (by rw [upd_ne nb]; exact e1) (r.fz fz)
        | k e1 e2 r => exact .k (by rw [upd_ne nb]; exact e1) e2 (r.fz fz)
        | t e1 e2 r => exact .t (by rw [upd_ne nb]; exact e1) e2 (r.fz fz)
  · have own : ∀ (m : Nat) (cm : Ct), (env.set i (.own c'))[m]? = some (.own cm) → ∃ cm', env[m]? = some (.own cm') := fun m cm h => by
      by_cases em : i = m
      · subst em; exact ⟨c, e⟩
      · rw [List.getElem?_set_ne em] at h; exact ⟨cm, h⟩
    obtain ⟨_, h1'⟩ := own j cj h1
    obtain ⟨_, h2'⟩ := own l d h2
    exact rel.dj j l _ _ b ne h1' h2' h3
theorem frz_rel : ∀ {is : List Nat} {env env' : Ev} {w : Wd}, frzE env is = some env' → Rel g pf w0 H0 w env W σ H → ∃ w', Rel g pf w0 H0 w' env' W σ H ∧ Fz w H w' H
  | [], env, env', w, e, rel => by simp only [frzE] at e; cases e; exact ⟨w, rel, Fz.refl _ _⟩
  | i :: is, env, env', w, e, rel => by
    simp only [frzE] at e
    split at e
    · rename_i c hc
      obtain ⟨a, ev, h0, ng, k⟩ := rel.sl i _ hc
      obtain ⟨o, ho⟩ := k.ex
      have hi : i < env.length := (List.getElem?_eq_some_iff.mp hc).1
      have rel1 : Rel g pf w0 H0 (w.frz a) (env.set i (.val c.pv)) W σ H := by
        refine ⟨rel.wk.frz ho ng, rel.ext.frz h0, rel.tr0, rel.pur, by simp [rel.len], fun j s h => ?_, fun j l cj d b ne h1 h2 h3 => ?_⟩
        · by_cases ej : i = j
          · subst ej
            rw [List.getElem?_set_self hi] at h
            cases h
            exact ⟨.ref a, ev, k.pv⟩
          · rw [List.getElem?_set_ne ej] at h
            have q := rel.sl j s h
            cases s with
            | un => trivial
            | val p => obtain ⟨v, e1, k⟩ := q; exact ⟨v, e1, k.frz⟩
            | own cc =>
              obtain ⟨b, e1, hn, ngb, kk⟩ := q
              refine ⟨b, e1, hn, fun z => ?_, kk.frz⟩
              rcases z with rfl | z
              · exact rel.dj i j c cc b ej hc h ev e1
              · exact ngb z
        · have own : ∀ (m : Nat) (cm : Ct), (env.set i (.val c.pv))[m]? = some (.own cm) → env[m]? = some (.own cm) := fun m cm h => by
            by_cases em : i = m
            · subst em
              rw [List.getElem?_set_self hi] at h
              cases h
            · rw [List.getElem?_set_ne em] at h; exact h
          exact rel.dj j l _ _ b ne (own j _ h1) (own l _ h2) h3
      obtain ⟨w', r, f⟩ := frz_rel e rel1
      refine ⟨w', r, Fz.trans (w1 := w.frz a) (H1 := H) ⟨fun b hb => ⟨Or.inr hb, rfl⟩, fun _ _ h => h⟩ f⟩
    · exact frz_rel e rel
    · cases e
end

section
variable {X : Cx} {g : Gx} {pf p : Bool} {Wx : WX} {f fe fc : F} {s t : S} {e c : Expr} {st : Stmt} {rest a b : List Stmt} {pos : Pos}
theorem s_frz {is : List Nat} (h : PS X st (tS g pf Wx s)) : PS X st (tS g pf Wx (xFrz is s)) := h.imp fun D σ H ⟨w0, H0, w, env, W, rel, o⟩ => by
  unfold xFrz at o
  split at o
  · rename_i env' e
    obtain ⟨w', r, fz⟩ := frz_rel e rel
    exact ⟨w0, H0, w', env', W, r, o.shift fz⟩
  · exact o.elim
theorem s_nil : PSs X [] (tS g pf Wx xNx) := pss_nil.imp fun D σ H ⟨w0, H0, w, env, W, rel, o⟩ => o w σ H (Fz.refl _ _) rel
theorem s_one (h : PS X st (tS g pf Wx s)) : PSs X [st] (tS g pf Wx s) := pss_one h
theorem s_seq (h : PS X st (tS g pf Wx s)) (h2 : PSs X rest (tS g pf Wx t)) : PSs X (st :: rest) (tS g pf Wx (xSeq s t)) := (pss_cons h h2).imp fun D σ H ⟨w0, H0, w, env, W, rel, o⟩ => by
  refine ⟨w0, H0, w, env, W, rel, ?_⟩
  unfold xSeq at o
  cases q : s env W with
  | bad => rw [q] at o; exact o
  | exc c env' W' => rw [q] at o; exact o
  | ok fl env' W' =>
    rw [q] at o
    cases fl with
    | nx => exact fun w' σ' H' fz r => ⟨w0, H0, w', env', W', r, o.shift fz⟩
    | brk => exact o
    | cont => exact o
    | ret r => exact o
theorem s_pass : PS X (.Pass pos) (tS g pf Wx xNx) := ps_pass.imp fun D σ H ⟨w0, H0, w, env, W, rel, o⟩ => o w σ H (Fz.refl _ _) rel
theorem s_doc {x : Str} {j : Nat} {p2 : Pos} : PS X (.Expr (.Constant (.str x) j p2) pos) (tS g pf Wx xNx) := ps_doc.imp fun D σ H ⟨w0, H0, w, env, W, rel, o⟩ => o w σ H (Fz.refl _ _) rel
theorem s_brk : PS X (.Break pos) (tS g pf Wx (xFl .brk)) := ps_break.imp fun D σ H ⟨w0, H0, w, env, W, rel, o⟩ => o w σ H (Fz.refl _ _) rel
theorem s_cont : PS X (.Continue pos) (tS g pf Wx (xFl .cont)) := ps_continue.imp fun D σ H ⟨w0, H0, w, env, W, rel, o⟩ => o w σ H (Fz.refl _ _) rel
theorem s_ret (h : PE X e (tE g pf Wx p f)) : PS X (.Return (some e) pos) (tS g pf Wx (xRet f)) := (ps_ret h).imp fun D σ H ⟨w0, H0, w, env, W, rel, o⟩ => by
  refine ⟨w0, H0, w, env, W, rel, oE.st o rel fun x W1 v H1 w1 _ rel1 ext1 s1 rr1 o1 => ?_⟩
  split at o1
  · exact o1.elim
  · rename_i hb
    exact o1 v w1 σ H1 rel1 (by simpa using hb) (rr1.weak rel.tr0)
theorem s_retN : PS X (.Return none pos) (tS g pf Wx (xRet (evC .non))) := ps_retN.imp fun D σ H ⟨w0, H0, w, env, W, rel, o⟩ =>
  o .non w σ H rel rfl .non
theorem s_retO {i : Nat} (h : PE X e (tVar i)) : PS X (.Return (some e) pos) (tS g pf Wx (xRetO i)) := (ps_ret h).imp fun D σ H ⟨w0, H0, w, env, W, rel, o⟩ => by
  unfold xRetO at o
  split at o
  · rename_i c hc
    obtain ⟨a, e1, h0, ng, k⟩ := rel.sl i _ hc
    exact ⟨.ref a, e1, o (.ref a) w σ H rel rfl ⟨a, rfl, h0, ng, k⟩⟩
  · exact o.elim
theorem asg_imp {tg : CT} : ∀ D σ H, tS g pf Wx (xAsg tg f) D σ H → tE g pf Wx p f σ H fun x H1 => gB g pf tg x σ H1 D.nx := fun D σ H ⟨w0, H0, w, env, W, rel, o⟩ => by
  refine ⟨w0, H0, w, env, W, rel, oE.st o rel fun x W1 v H1 w1 _ rel1 ext1 s1 rr1 o1 => ?_⟩
  split at o1
  · rename_i pv hv
    split at o1
    · rename_i env' hb
      obtain ⟨w2, rp, fz, _, x2, _, _⟩ := rr1.plain (w0 := w0) (H0 := H0) hv rel1.wk rel.tr0
      exact ⟨w0, H0, w2, env, W1, pv, env', x2 env W1 σ rel1 rel.ns, rp, hb, fun σ' r _ => o1 w2 σ' H1 fz r⟩
    · exact o1.elim
  · exact o1.elim
theorem asgN_imp {i : Nat} : ∀ D σ H, tS g pf Wx (xAsg (.nm i) f) D σ H → tAsg (tE g pf Wx p f) (gName i) D σ H := fun D σ H ⟨w0, H0, w, env, W, rel, o⟩ => by
  refine ⟨w0, H0, w, env, W, rel, oE.st o rel fun x W1 v H1 w1 _ rel1 ext1 s1 rr1 o1 => ?_⟩
  split at o1
  · rename_i pv hv
    simp only [bind] at o1
    obtain ⟨w2, rp, fz, _, x2, _, _⟩ := rr1.plain (w0 := w0) (H0 := H0) hv rel1.wk rel.tr0
    exact o1 w2 _ H1 fz ((x2 env W1 σ rel1 rel.ns).set i rp)
  · exact o1.elim
theorem own_imp {i : Nat} : ∀ D σ H, tS g pf Wx (xOwn i f) D σ H → tAsg (tE g pf Wx p f) (gName i) D σ H := fun D σ H ⟨w0, H0, w, env, W, rel, o⟩ => by
  refine ⟨w0, H0, w, env, W, rel, oE.st o rel fun x W1 v H1 w1 _ rel1 ext1 s1 rr1 o1 => ?_⟩
  split at o1
  · obtain ⟨a, rfl, hn, ng, k⟩ := rr1
    exact o1 w1 _ H1 (Fz.refl _ _) (rel1.setOwn i (rel.tr0 a hn) ng k fun j c _ => rel.ns a hn j c)
  · exact o1.elim
/-- a name is set -/
theorem s_set {i : Nat} {x : Str} {p2 : Pos} (hN : X.N.Nodup) (hi : X.N[i]? = some x) (hx : Loc X.env.scope x) (hf : X.fn x = true ∨ X.env.scope.names.lookup x = some .local) (h : PE X e (tE g pf Wx p f)) (hs : swapsWith e (some (.Name x p2)) pos.line X.env = pure false) :
    PS X (.Assign [.Name x p2] e pos) (tS g pf Wx (xAsg (.nm i) f)) ∧ PS X (.Assign [.Name x p2] e pos) (tS g pf Wx (xOwn i f)) :=
  ⟨(ps_set hN hi hx h hs hf).imp asgN_imp, (ps_set hN hi hx h hs hf).imp own_imp⟩
theorem s_setT {ts : List CT} {es : List Expr} {k : Nat} {p2 : Pos} (hN : X.N.Nodup) (hc : X.calm = true) (hK : X.K = g.K) (ht : TgEs X ts es) (h : PE X e (tE g pf Wx p f)) (hs : swapsWithSole [.Tuple es k p2] e pos.line X.env = pure false) (hw : swappedStores [.Tuple es k p2] e X.env = pure none) :
    PS X (.Assign [.Tuple es k p2] e pos) (tS g pf Wx (xAsg (.tp ts) f)) :=
  (ps_asg h (s_tg hN hc hK (.tp ht)) hs hw).imp asg_imp
theorem s_ifS (hc : PT X c (tB (tE g pf Wx p fc))) (ha : PSs X a (tS g pf Wx s)) (hb : PSs X b (tS g pf Wx t)) : PS X (.If c a b pos) (tS g pf Wx (xIf fc s t)) := (ps_if hc ha hb).imp fun D σ H ⟨w0, H0, w, env, W, rel, o⟩ => by
  refine ⟨w0, H0, w, env, W, rel, oE.st o rel fun x W1 v H1 w1 _ rel1 ext1 s1 rr1 o1 => ?_⟩
  split at o1
  · exact ⟨true, rr_bl rr1, iteT ⟨w0, H0, w1, env, W1, rel1, o1⟩⟩
  · exact ⟨false, rr_bl rr1, iteF ⟨w0, H0, w1, env, W1, rel1, o1⟩⟩
  · exact o1.elim
/-! ### append, extend -/
theorem s_app {i : Nat} {o : Expr} {apos cpos : Pos} (ho : PE X o (tVar i)) (h : PE X e (tE g pf Wx p f)) (hbase : attributeBase o "append" X.env (eval o X.env) = eval o X.env) (hline : (apos.endLine == cpos.line) = true)
    (hs : starEach [e] X.env = (false, eval e X.env) :: starEach [] X.env) : PS X (.Expr (.Call (.Attribute o "append" apos) [e] [] cpos) pos) (tS g pf Wx (xApp i f)) := by
  have hfew : ((backTo cpos (starEach [e] X.env)).all (fun x => !x.1) && (backToKw cpos (keywordEach [] X.env)).all (fun x => x.1.isSome)
      && decide ([e].length + ([] : List Keyword).length + (if ([] : List Keyword).isEmpty then 0 else 1) < 30)) = true := by rw [hs]; rfl
  refine (ps_expr (pe_bm PySem.F.plainAttrs_list PySem.F.slot_list_append PySem.F.type_list_append mt_append ho (pa_cons h pa_nil hs) hbase hfew hline hs rfl) rfl).imp fun D σ H ⟨w0, H0, w, env, W, rel, o⟩ => ?_
  unfold xApp at o
  split at o
  · rename_i xs hs'
    obtain ⟨a, ev, h0, ng, k⟩ := rel.sl i _ hs'
    cases k with
    | l e1 r =>
    rename_i vs
    refine ⟨.ref a, ev, .inl ⟨rfl, vs, SqL.of e1⟩, ?_⟩
    refine ⟨w0, H0, w, env, W, rel, oE.st (p := p) o rel fun x W1 v H1 w1 _ rel1 ext1 s1 rr1 o1 => ?_⟩
    have e2 := (ext1.kN e1 ng (fun _ z => nomatch z)).1
    split at o1
    · rename_i pv hv
      split at o1
      · rename_i hsz
        obtain ⟨w2, rp, fz, x1, x2, x3, _⟩ := rr1.plain (w0 := w0) (H0 := H0) hv rel1.wk rel.tr0
        have rel2 := x2 env W1 σ rel1 rel.ns
        have ng2 : ¬ w2.G a := x3 a _ e1 (ext1.kN e1 ng (fun _ z => nomatch z)).2
        have r2 : Rps g w2 H1 vs xs := (r.mono ext1).fz fz
        refine ⟨a, vs, v, rfl, rfl, e2, by rw [r.length, ← sz_line]; exact hsz, ?_⟩
        obtain ⟨rel3, fz3⟩ := rel2.write (o := .lst (vs ++ [v])) hs' ev (.l upd_same ((r2.append (.cons rp .nil)).fz (Fz.put rel2.wk ng2)))
        exact o1 w2 σ _ (fz.trans fz3) rel3
      · exact o1.elim
    · exact o1.elim
  · exact o.elim
theorem s_ext {i : Nat} {o : Expr} {apos cpos : Pos} (ho : PE X o (tVar i)) (h : PE X e (tE g pf Wx p f)) (hbase : attributeBase o "extend" X.env (eval o X.env) = eval o X.env) (hline : (apos.endLine == cpos.line) = true)
    (hs : starEach [e] X.env = (false, eval e X.env) :: starEach [] X.env) : PS X (.Expr (.Call (.Attribute o "extend" apos) [e] [] cpos) pos) (tS g pf Wx (xExt i f)) := by
  have hfew : ((backTo cpos (starEach [e] X.env)).all (fun x => !x.1) && (backToKw cpos (keywordEach [] X.env)).all (fun x => x.1.isSome)
      && decide ([e].length + ([] : List Keyword).length + (if ([] : List Keyword).isEmpty then 0 else 1) < 30)) = true := by rw [hs]; rfl
  refine (ps_expr (pe_bm PySem.F.plainAttrs_list PySem.F.slot_list_extend PySem.F.type_list_extend mt_extend ho (pa_cons h pa_nil hs) hbase hfew hline hs rfl) rfl).imp fun D σ H ⟨w0, H0, w, env, W, rel, o⟩ => ?_
  unfold xExt at o
  split at o
  · rename_i xs hs'
    obtain ⟨a, ev, h0, ng, k⟩ := rel.sl i _ hs'
    cases k with
    | l e1 r =>
    rename_i vs
    refine ⟨.ref a, ev, .inl ⟨rfl, vs, SqL.of e1⟩, ?_⟩
    refine ⟨w0, H0, w, env, W, rel, oE.st (p := p) o rel fun x W1 v H1 w1 _ rel1 ext1 s1 rr1 o1 => ?_⟩
    have e2 := ext1.kN e1 ng (fun _ z => nomatch z)
    split at o1
    · rename_i ys hv
      split at o1
      · rename_i hsz
        have lk := rr1.lk
        rw [hv] at lk
        obtain ⟨b, us, rfl, e3, ru⟩ := lk.lst
        have r2 : Rps g w1 H1 vs xs := r.mono ext1
        refine ⟨a, b, vs, us, rfl, rfl, e2.1, e3, by rw [r.length, ru.length, ← sz_line]; exact hsz, ?_⟩
        obtain ⟨rel3, fz3⟩ := rel1.write (o := .lst (vs ++ us)) hs' ev (.l upd_same ((r2.append ru).fz (Fz.put rel1.wk e2.2)))
        exact o1 w1 σ _ fz3 rel3
      · exact o1.elim
    · exact o1.elim
  · exact o.elim
/-! ### loops -/
theorem s_while {n : Nat} {kil : List Nat} (hp : PassesOwn (model X.prog X.w) X.A X.env X.xe) (hc : PT X c (tB (tE g pf Wx p fc))) (hb : PSs X a (tS g pf Wx s)) : PS X (.While c a [] pos) (tS g pf Wx (xWh kil fc s n)) := (ps_while hp hc hb).imp fun D σ H ⟨w0, H0, w, env, W, rel, o⟩ => by
  refine ⟨fun m σ H => ∃ w env W, Rel g pf w0 H0 w env W σ H ∧ oS g pf Wx w0 H0 w H D (xWh kil fc s m env W), ⟨n, w, env, W, rel, o⟩, ?_⟩
  rintro m σ H ⟨w, env, W, rel, o⟩
  cases m with
  | zero => exact o.elim
  | succ m =>
    refine ⟨w0, H0, w, env, W, rel, oE.st (p := p) (k := fun r W1 => match r with
      | .val (.bl false) => .ok .nx env W1
      | .val (.bl true) => match s env W1 with
        | .ok .nx env' W' => xWh kil fc s m (wipeE env' kil) W'
        | .ok .cont env' W' => xWh kil fc s m (wipeE env' kil) W'
        | .ok .brk env' W' => .ok .nx (wipeE env' kil) W'
        | o => o
      | _ => .bad) o rel fun x W1 v H1 w1 _ rel1 ext1 s1 rr1 o1 => ?_⟩
    split at o1
    · exact ⟨false, rr_bl rr1, iteF (o1 w1 σ H1 (Fz.refl _ _) rel1)⟩
    · refine ⟨true, rr_bl rr1, iteT ?_⟩
      refine ⟨fun σ H => ∃ w env W, Rel g pf w0 H0 w env W σ H ∧ oS g pf Wx w0 H0 w H D (xWh kil fc s m env W), fun σ' H' h => ⟨m, Nat.lt_succ_self m, h⟩, w0, H0, w1, env, W1, rel1, ?_⟩
      cases q : s env W1 with
      | bad => rw [q] at o1; exact o1
      | exc c env' W' => rw [q] at o1; exact o1
      | ok fl env' W' =>
        rw [q] at o1
        cases fl with
        | nx => exact fun w' σ' H' fz r => ⟨w', _, W', r.kill kil, o1.shift fz⟩
        | cont => exact fun w' σ' H' fz r => ⟨w', _, W', r.kill kil, o1.shift fz⟩
        | brk => exact fun w' σ' H' fz r => o1 w' σ' H' fz (r.kill kil)
        | ret r => exact o1
    · exact o1.elim
theorem s_for {tgE : CT} {kil : List Nat} {k : IK} {es : List Expr} {fs : List F} {tg iter : Expr} (hp : PassesOwn (model X.prog X.w) X.A X.env X.xe) (hN : X.N.Nodup) (hc : X.calm = true) (hK : X.K = g.K) (hit : ItE k tg es iter) (hf : ItF X) (hg : ∀ x, ikN k = some x → Gl X x) (hes : PEs X g pf Wx es fs p)
    (htg : TgE X tgE tg) (hb : PSs X a (tS g pf Wx s)) (hs : ∀ x, foldedSetIterable iter X.env x = pure x) : PS X (.For tg iter a [] pos) (tS g pf Wx (xFor tgE k fs s kil)) := (ps_for hp hc (s_iter hK hit hf hg hes) (s_tg (g := g) (pf := pf) hN hc hK htg) hb hs).imp fun D σ H ⟨w0, H0, w, env, W, rel, o⟩ => by
  refine ⟨w0, H0, w, env, W, rel, ?_⟩
  unfold xFor at o
  cases q : evs fs env W with
  | bad => rw [q] at o; exact o
  | exc c W1 => rw [q] at o; exact fun hc H' w' e r => o hc w' σ H' e.fz r
  | ok rs W1 =>
  rw [q] at o
  simp only [Out.st_ok] at o
  split at o
  · rename_i nb
    split at o
    · rename_i items q2
      intro vs H1 w1 ext1 s1 rel1 rrs hl
      have sl : ∀ (i : Nat) (c : Ct) (a : Addr), env[i]? = some (.own c) → σ[i]? = some (some (V.ref a)) → H a ≠ none := fun i c a e1 e2 e3 => rel.ns a e3 i c e1 e2
      obtain ⟨w2, x1, x2, x3, _⟩ := RRs.plain (rrs (by rw [nb]; rfl)) (vals_of_noB nb) (fun _ z => z) rel.tr0 sl rel1 ext1
      refine ⟨true, w2, _, items, by rw [List.length_map]; exact evs_length q, x3.f, q2, fun J ⟨src, G, wk, g0, hF⟩ => ?_⟩
      have o2 := o.shift x1.fz
      -- the invariant
      let Pv : Nat → L2.St → Hp → Prop := fun i σ H => ∃ w env W, Rel g pf w0 H0 w env W σ H ∧ Fz w2 H1 w H ∧ G w H ∧ oS g pf Wx w0 H0 w H D (loopF kil (turnF tgE s) (items.drop i) env W)
      have stab : ∀ w H w' H', G w H → Fz w2 H1 w H → Fz w H w' H' → G w' H' := fun w H w' H' hg e f => wk.stab w H w' H' hg f fun a ha => (f.kF a (e.kF a (hF rfl a ha)).1).2
      refine ⟨fun i m σ H => m = items.length - i ∧ i ≤ items.length ∧ Pv i σ H, ⟨items.length, by simp, Nat.zero_le _, w2, env, W1, x2, Fz.refl _ _, g0, o2⟩, ?_⟩
      rintro i m σ3 H3 ⟨rfl, hi, w3, env3, W3, rel3, fz3, g3, o3⟩
      by_cases hlt : i < items.length
      · refine .inr ⟨wk.goes i w3 H3 hlt g3, Pv (i + 1), fun σ' H' p' => ⟨items.length - (i + 1), by omega, rfl, hlt, p'⟩, fun x H4 y => ?_⟩
        obtain ⟨p, hp, hy⟩ := wk.yields i w3 H3 x H4 hlt g3 y
        have item : ∃ w4, Fz w3 H3 w4 H4 ∧ Rel g pf w0 H0 w4 env3 W3 σ3 H4 ∧ Rp g w4 H4 x p := by
          rcases hy with ⟨rfl, rp⟩ | ⟨T, us, qs, rfl, hT, rfl, rq, rfl, hq⟩
          · exact ⟨w3, Fz.refl _ _, rel3, rp⟩
          · exact ⟨w3.frz T, (Ext.laidF rel3.wk hT).fz, rel3.laidF hT, .tup (o := bareO []) (.inl rfl) (by rw [hq]; exact upd_same) (bareO_ok []) (rq.mono (Ext.laidF rel3.wk hT))⟩
        obtain ⟨w4, fz4, rel4, rp4⟩ := item
        have e2 : items.drop i = p :: items.drop (i + 1) := by
          rw [List.drop_eq_getElem_cons hlt]
          rw [List.getElem?_eq_getElem hlt] at hp
          cases hp
          rfl
        rw [e2] at o3
        simp only [loopF] at o3
        have o4 := o3.shift fz4
        unfold turnF at o4
        cases hb : bind tgE p env3 with
        | none => rw [hb] at o4; exact o4.elim
        | some env' =>
        rw [hb] at o4
        simp only at o4
        refine ⟨w0, H0, w4, env3, W3, p, env', rel4, rp4, hb, fun σ' rel' _ => ⟨w0, H0, w4, env', W3, rel', ?_⟩⟩
        cases q5 : s env' W3 with
        | bad => rw [q5] at o4; exact o4
        | exc c env' W' => rw [q5] at o4; exact o4
        | ok fl env' W' =>
          rw [q5] at o4
          cases fl with
          | nx => exact fun w' σ' H' fz r => ⟨w', _, W', r.kill kil, (fz3.trans fz4).trans fz, stab w3 H3 w' H' g3 fz3 (fz4.trans fz), o4.shift fz⟩
          | cont => exact fun w' σ' H' fz r => ⟨w', _, W', r.kill kil, (fz3.trans fz4).trans fz, stab w3 H3 w' H' g3 fz3 (fz4.trans fz), o4.shift fz⟩
          | brk => exact fun w' σ' H' fz r => o4 w' σ' H' fz (r.kill kil)
          | ret r => exact o4
      · have e : i = items.length := by omega
        subst e
        refine .inl ⟨wk.stops w3 H3 g3, ?_⟩
        rw [List.drop_length] at o3
        exact o3 w3 σ3 H3 (Fz.refl _ _) rel3
    · exact o.elim
  · exact o.elim
end
end D

/-! D14X: stores by subscript, calls as statements, raise, try. -/
namespace D
open PySem PySem.Spec PyProof.Rows L2
def noSl : Expr → Bool
  | .Slice _ _ _ _ => false
  | _ => true
theorem PSet.or {X : Cx} {t t' : TSet} (h : PSet X t) (h' : PSet X t') : PSet X (fun o i v H Q => t o i v H Q ∨ t' o i v H Q) := by
  intro pins s σ H o i v ov iv u Q I ro ri rv q
  rcases q with q | q
  · exact h pins s σ H o i v ov iv u Q I ro ri rv q
  · exact h' pins s σ H o i v ov iv u Q I ro ri rv q
section
variable {g : Gx} {w : Wd} {H : Hp}
theorem Rps.set : ∀ {vs : List V} {ps : List PV} {v : V} {p : PV} (j : Nat), Rps g w H vs ps → Rp g w H v p → Rps g w H (vs.set j v) (ps.set j p)
  | _, _, _, _, 0, .nil, _ => .nil
  | _, _, _, _, _ + 1, .nil, _ => .nil
  | _, _, _, _, 0, .cons r t, q => .cons q t
  | _, _, _, _, j + 1, .cons r t, q => .cons r (Rps.set j t q)
end
section
variable {X : Cx} {g : Gx} {pf p p' : Bool} {Wx : WX} {f fe fk fv : F} {s t : S} {e kx vx : Expr} {pos : Pos}
theorem s_exp (h : PE X e (tE g pf Wx p f)) (hs : swapsWith e none pos.line X.env = pure false) : PS X (.Expr e pos) (tS g pf Wx (xExp f)) := (ps_expr h hs).imp fun D σ H ⟨w0, H0, w, env, W, rel, o⟩ => by
  refine ⟨w0, H0, w, env, W, rel, oE.st o rel fun x W1 v H1 w1 _ rel1 ext1 s1 rr1 o1 => ?_⟩
  exact o1 w1 σ H1 (Fz.refl _ _) rel1
/-- s[k] = v -/
theorem s_put (hu : X.A.units + 1 < cLine) {i : Nat} {o : Expr} {p2 : Pos} (ho : PE X o (tVar i)) (hk : PE X kx (tE g pf Wx p fk)) (hv : PE X vx (tE g pf Wx p' fv)) (hn : noSl kx = true) :
    PS X (.Assign [.Subscript o kx p2] vx pos) (tS g pf Wx (xPut i fk fv)) := by
  have hsw : swapsWithSole [.Subscript o kx p2] vx pos.line X.env = pure false := by cases vx <;> rfl
  refine (ps_asg hv (pg_sub ho hk (PSet.or set_list (set_dict hu)) (by intro v; cases kx <;> first | rfl | cases hn)) hsw rfl).imp fun D σ H ⟨w0, H0, w, env, W, rel, o⟩ => ?_
  unfold xPut at o
  split at o
  · rename_i c hc
    refine ⟨w0, H0, w, env, W, rel, oE.st o rel fun x W1 v H1 w1 _ rel1 ext1 s1 rr1 o1 => ?_⟩
    split at o1
    · rename_i pv hpv
      obtain ⟨w2, rp, fz, x1, x2, x3, _⟩ := rr1.plain (w0 := w0) (H0 := H0) hpv rel1.wk rel.tr0
      have rel2 := x2 env W1 σ rel1 rel.ns
      have o2 := o1.shift fz
      obtain ⟨a, ev, h0, ng, k⟩ := rel2.sl i _ hc
      refine ⟨.ref a, ev, ?_⟩
      refine ⟨w0, H0, w2, env, W1, rel2, oE.st o2 rel2 fun y W2 u H2 w3 _ rel3 ext3 s3 rr3 o3 => ?_⟩
      split at o3
      · exact o3.elim
      · rename_i hb
        split at o3
        · rename_i c' hput
          obtain ⟨b, ev3, h03, ng3, k3⟩ := rel3.sl i _ hc
          rw [ev] at ev3
          cases ev3
          have rp3 : Rp g w3 H2 v pv := rp.mono ext3
          have lk3 := rr3.lk
          generalize y.look = q at hput lk3
          unfold putC at hput
          split at hput
          · split at hput
            · rename_i j hj
              cases hput
              cases k3 with
              | l e1 r =>
                rename_i vs
                refine .inl ⟨a, vs, _, j, rfl, lk3.int, e1, by rw [r.length]; exact hj, ?_⟩
                obtain ⟨rel4, fz4⟩ := rel3.write (o := .lst (vs.set j v)) hc ev (.l upd_same ((r.set j rp3).fz (Fz.put rel3.wk ng3)))
                exact o3 w3 σ _ fz4 rel4
            · cases hput
          · split at hput
            · rename_i kq hkq
              split at hput
              · rename_i hsz
                cases hput
                cases k3 with
                | k e1 e2 r =>
                  rename_i kvs
                  subst e2
                  rw [List.length_map] at hsz
                  refine .inr ⟨a, upd H2 a (.dK (putK kvs kq v)), rfl, ?_, ?_⟩
                  · rw [toKey_kv hkq lk3]
                    exact DPut.k e1 (by rw [← sz_line]; exact hsz)
                  · obtain ⟨q1, q2⟩ := putK_ok (q := kq) rp3 r
                    obtain ⟨rel4, fz4⟩ := rel3.write (o := .dK (putK kvs kq v)) hc ev (.k upd_same q1 (q2.fz (Fz.put rel3.wk ng3)))
                    exact o3 w3 σ _ fz4 rel4
              · cases hput
            · cases hput
          · split at hput
            · rename_i kq hkq
              split at hput
              · rename_i hsz
                cases hput
                cases k3 with
                | t e1 e2 r =>
                  rename_i kvs
                  subst e2
                  rw [List.length_map] at hsz
                  obtain ⟨b, us, rfl, hb2, rk⟩ := lk3.tupK (slk_key hkq)
                  rw [toKeys_kv hkq rk] at hb2
                  refine .inr ⟨a, upd H2 a (.dT (putK kvs kq v)), rfl, DPut.t e1 hb2 (by rw [← sz_line]; exact hsz), ?_⟩
                  obtain ⟨q1, q2⟩ := putK_ok (q := kq) rp3 r
                  obtain ⟨rel4, fz4⟩ := rel3.write (o := .dT (putK kvs kq v)) hc ev (.t upd_same q1 (q2.fz (Fz.put rel3.wk ng3)))
                  exact o3 w3 σ _ fz4 rel4
              · cases hput
            · cases hput
          · cases hput
        · exact o3.elim
    · exact o1.elim
  · exact o.elim
/-- raise X("..") -/
theorem s_rais (hK : X.K = g.K) {xs : List Str} (E : ExOk X.K X.mg g xs) (hc : X.calm = true) (tk : Takes X Wx) {x m : Str} {c j : Nat} {p1 p2 p3 : Pos} (hx : xs[c]? = some x) (hg : Gl X x) (hd : (x == ("__debug__" : Str)) = false) :
    PS X (.Raise (some (.Call (.Name x p1) [.Constant (.str m) j p2] [] p3)) none pos) (tS g pf Wx (xRais c)) := by
  have hlt : c < g.nx := by rw [E.nx]; exact (List.getElem?_eq_some_iff.mp hx).1
  exact (ps_raise hc tk (pmk_own PySem.F.excBase_ValueError (E.ex c hlt) (E.gl c x hx) (E.kp c hlt) (raises_own (E.sb c hlt).1 (E.sb c hlt).2) hg hd)).imp fun D σ H ⟨w0, H0, w, env, W, rel, o⟩ => o hlt w σ H (Fz.refl _ _) rel
end
end D

/-! D14P: d[k] = [..]; if c: d[k].append(x), as one. -/
namespace D
open PySem PySem.Spec PyProof.Rows L2
/-- what a dict has at a key, exactly -/
def rXd : R2 := fun x y H Q => ∃ a v, x = .ref a ∧ DGet H a y (some v) ∧ Q v H
theorem ix_dg {X : Cx} (hu : X.A.units + 1 < cLine) : IxR X rXd := by
  intro value slice pins s σ H x y v u Q I rx ry h hs
  obtain ⟨a, z, rfl, dg, q⟩ := h
  cases rx
  exact tail_dict hu I dg ry hs q
theorem flat_free {g : Gx} {w w' : Wd} {H H' : Hp} {v : V} {p : PV} (hp : flatA p = true) (r : Rp g w H v p) : Rp g w' H' v p := by
  cases r <;> first | (cases hp; done) | skip
  · exact .non
  · exact .bl _
  · exact .int _
  · exact .str _ (by assumption)
section
variable {g : Gx} {pf : Bool} {w0 w3 w4 w8 : Wd} {H0 H2 H4 H8 : Hp} {env env8 : Ev} {W W8 : Om} {σ : L2.St} {i : Nat} {a b : Addr} {ks : List Key} {vs : List PV} {us : List V} {xs : List PV} {q : Key} {v8 : V} {p : PV} {kvs : List (Key × V)}
/-- an expression first, what is owed told from further ahead -/
theorem oE.st0 {p : Bool} {Wx : WX} {wb w : Wd} {Hb H : Hp} {D : Ends} {o : Out R} {k : R → Om → SO} (h : oS g pf Wx w0 H0 wb Hb D (o.st env k)) (fb : Fz wb Hb w H) {Q : VK} (rel : Rel g pf w0 H0 w env W σ H)
    (hk : ∀ x W1 v H1 w1, o = .ok x W1 → Rel g pf w0 H0 w1 env W1 σ H1 → Ext w H w1 H1 → (p = true → Same H H1) → RR g w1 H H1 v x → oS g pf Wx w0 H0 wb Hb D (k x W1) → Q v H1) : oE g pf Wx w0 H0 env σ w H p Q o := by
  cases o with
  | bad => exact h
  | exc c W1 => exact fun hc H' w' e r => h hc w' σ H' (fb.trans e.fz) r
  | ok x W1 => exact fun v H1 w1 e s r rr => hk x W1 v H1 w1 rfl r e s rr h
/-- back in the old world, the list at b written -/
theorem Rel.back (rel3 : Rel g pf w0 H0 w3 env W σ H2) (hc : env[i]? = some (.own (.k ks vs))) (ev : σ[i]? = some (some (.ref a))) (h0 : H0 a = none) (ng : ¬ w3.G a) (e1 : H2 a = some (.dK kvs)) (e2 : kvs.map (·.1) = ks) (r : Rps g w3 H2 (kvs.map (·.2)) vs)
    (hb : H2 b = some (.lst us)) (hb0 : H0 b = none) (hbG : ¬ w3.G b) (hbs : ∀ (j : Nat) (c : Ct), env[j]? = some (.own c) → σ[j]? ≠ some (some (V.ref b))) (rx : Rps g w3 H2 us xs)
    (E : Ext (w3.frz b) (upd H2 a (.dK (putK kvs q (.ref b)))) w8 H8) (SM : Same (upd H2 a (.dK (putK kvs q (.ref b)))) H8) (rel8 : Rel g pf w0 H0 w8 env8 W8 σ H8) (hp : flatA p = true) (rp : Rp g w8 H8 v8 p) :
    ∃ wB, Rel g pf w0 H0 wB (env.set i (.own (.k (putKs ks q) (putVs ks vs q (.lst (xs ++ [p])))))) W σ (upd H8 b (.lst (us ++ [v8]))) ∧ Fz w3 H2 wB (upd H8 b (.lst (us ++ [v8]))) := by
  have ab : a ≠ b := fun z => hbs i _ hc (z ▸ ev)
  have hFG : ∀ c, w3.F c → c ≠ a ∧ c ≠ b := fun c f => ⟨fun z => ng (z ▸ rel3.wk.FG c f), fun z => hbG (z ▸ rel3.wk.FG c f)⟩
  have k1 : ∀ c o, H2 c = some o → ¬ w3.G c → c ≠ a → c ≠ b → upd H8 b (.lst (us ++ [v8])) c = some o := fun c o h n na nb => by
    rw [upd_ne nb]
    exact (E.kR c o (by rw [upd_ne na]; exact h) fun z => z.elim nb n).1
  have k2 : ∀ c, w3.F c → upd H8 b (.lst (us ++ [v8])) c = H2 c := fun c f => by
    obtain ⟨na, nb⟩ := hFG c f
    rw [upd_ne nb, (E.kF c (.inr f)).2, upd_ne na]
  have k3 : upd H8 b (.lst (us ++ [v8])) a = some (.dK (putK kvs q (.ref b))) := by
    rw [upd_ne ab]
    exact (E.kR a _ upd_same fun z => z.elim ab ng).1
  let wB : Wd := ⟨w3.ob, fun c => c = b ∨ w3.F c, fun c => c = b ∨ w3.G c⟩
  have fz : Fz w3 H2 wB (upd H8 b (.lst (us ++ [v8]))) := ⟨fun c f => ⟨.inr f, k2 c f⟩, fun n c h => h⟩
  have tr : ∀ c, upd H8 b (.lst (us ++ [v8])) c = none → H2 c = none := fun c h => by
    have h8 := upd_none h
    have h4 := E.tr rel8.wk c h8
    exact upd_none h4
  have wkB : WOk g wB W (upd H8 b (.lst (us ++ [v8]))) := rel3.wk.mono rfl (fun _ f => .inr f) (fun c f => ⟨.inr f, by
      obtain ⟨o, e⟩ := rel3.wk.tr c f
      rw [upd_ne (fun z : c = b => hbG (z ▸ f)), e]
      exact SM c o (by rw [upd_ne (fun z : c = a => ng (z ▸ f))]; exact e)⟩) (fun c f => f.elim (fun z => .inr (.inl (z ▸ hbG))) .inl) (fun c f => f.imp id (rel3.wk.FG c)) fun c f => by
    cases z : upd H8 b (.lst (us ++ [v8])) c with
    | some o => exact ⟨o, rfl⟩
    | none =>
      rcases f with rfl | f
      · rw [upd_same] at z; cases z
      · obtain ⟨o, e⟩ := rel3.wk.tr c f
        rw [tr c z] at e; cases e
  refine ⟨wB, ⟨wkB, ⟨fun c f => ?_, fun c f => .inr (rel3.ext.kG c f), fun c o h n => ?_, fun n c h => rel3.ext.kO n c h⟩, fun c h => rel3.tr0 c (tr c h), fun h => same_put (rel8.pur h) hb0, by simp [rel3.len], fun j s h => ?_, fun j l cj d c ne h1 h2 h3 => ?_⟩, fz⟩
  · obtain ⟨f3, e3⟩ := rel3.ext.kF c f
    exact ⟨.inr f3, (k2 c f3).trans e3⟩
  · obtain ⟨e3, n3⟩ := rel3.ext.kR c o h n
    have na : c ≠ a := fun z => by rw [z, h0] at h; cases h
    have nb : c ≠ b := fun z => by rw [z, hb0] at h; cases h
    by_cases g3 : w3.G c
    · obtain ⟨f3, t⟩ := n3 g3
      exact ⟨(k2 c f3).trans e3, fun _ => ⟨.inr f3, t⟩⟩
    · exact ⟨k1 c o e3 g3 na nb, fun z => absurd z fun q => q.elim nb g3⟩
  · by_cases ej : i = j
    · subst ej
      rw [List.getElem?_set_self (List.getElem?_eq_some_iff.mp hc).1] at h
      cases h
      have hv : Rp g wB (upd H8 b (.lst (us ++ [v8]))) (.ref b) (.lst (xs ++ [p])) := .lst (.inl rfl) upd_same ((rx.fz fz).append (.cons (flat_free hp rp) .nil))
      obtain ⟨q1, q2⟩ := putK_ok (q := q) hv (r.fz fz)
      subst e2
      exact ⟨a, ev, h0, fun z => z.elim ab ng, .k k3 q1 q2⟩
    · rw [List.getElem?_set_ne ej] at h
      have k := rel3.sl j s h
      cases s with
      | un => trivial
      | val p => obtain ⟨v, e1, k⟩ := k; exact ⟨v, e1, k.fz fz⟩
      | own cc =>
        obtain ⟨d, e1, hn, ngd, kk⟩ := k
        have nda : d ≠ a := fun z => rel3.dj i j _ cc a ej hc h ev (z ▸ e1)
        have ndb : d ≠ b := fun z => hbs j cc h (z ▸ e1)
        refine ⟨d, e1, hn, fun z => z.elim ndb ngd, ?_⟩
        cases kk with
        | l e1 r => exact .l (k1 d _ e1 ngd nda ndb) (r.fz fz)
        | k e1 e2 r => exact .k (k1 d _ e1 ngd nda ndb) e2 (r.fz fz)
        | t e1 e2 r => exact .t (k1 d _ e1 ngd nda ndb) e2 (r.fz fz)
  · have own : ∀ (m : Nat) (cm : Ct), (env.set i (.own (.k (putKs ks q) (putVs ks vs q (.lst (xs ++ [p]))))))[m]? = some (.own cm) → ∃ cm', env[m]? = some (.own cm') := fun m cm h => by
      by_cases em : i = m
      · subst em; exact ⟨_, hc⟩
      · rw [List.getElem?_set_ne em] at h; exact ⟨cm, h⟩
    obtain ⟨_, h1'⟩ := own j cj h1
    obtain ⟨_, h2'⟩ := own l d h2
    exact rel3.dj j l _ _ c ne h1' h2' h3
end
section
variable {X : Cx} {g : Gx} {pf p p' pc p2 px : Bool} {Wx : WX} {fe fk fc fk2 fx : F} {kx vx cx k2x ax o o2 : Expr} {pos : Pos}
/-- d[k] = e; if c: d[k2].append(x) -/
theorem s_putA {pp : Bool} (hpp : pp = true → pc = true ∧ p2 = true ∧ px = true) (hu : X.A.units + 1 < cLine) {i : Nat} {q1 q2 q3 q4 apos cpos : Pos} (ho : PE X o (tVar i)) (hk : PE X kx (tE g pf Wx p fk)) (hv : PE X vx (tE g pf Wx p' fe)) (hn : noSl kx = true)
    (hc : PT X cx (tB (tE g pf Wx pc fc))) (ho2 : PE X o2 (tVar i)) (hk2 : PE X k2x (tE g pf Wx p2 fk2)) (hs2 : PlainIx k2x) (hx : PE X ax (tE g pf Wx px fx))
    (hbase : attributeBase (.Subscript o2 k2x q2) "append" X.env (eval (.Subscript o2 k2x q2) X.env) = eval (.Subscript o2 k2x q2) X.env) (hline : (apos.endLine == cpos.line) = true)
    (hs : starEach [ax] X.env = (false, eval ax X.env) :: starEach [] X.env) :
    PSs X [.Assign [.Subscript o kx q1] vx pos, .If cx [.Expr (.Call (.Attribute (.Subscript o2 k2x q2) "append" apos) [ax] [] cpos) q3] [] q4] (tS g pf Wx (xPutA i fk fe fc fk2 fx pp)) := by
  have hfew : ((backTo cpos (starEach [ax] X.env)).all (fun x => !x.1) && (backToKw cpos (keywordEach [] X.env)).all (fun x => x.1.isSome)
      && decide ([ax].length + ([] : List Keyword).length + (if ([] : List Keyword).isEmpty then 0 else 1) < 30)) = true := by rw [hs]; rfl
  have hsw : swapsWithSole [.Subscript o kx q1] vx pos.line X.env = pure false := by cases vx <;> rfl
  have h1 := ps_asg hv (pg_sub ho hk (PSet.or set_list (set_dict hu)) (by intro v; cases kx <;> first | rfl | cases hn)) hsw rfl
  have h2 := ps_if (pos := q4) hc (pss_one (ps_expr (pos := q3) (pe_bm PySem.F.plainAttrs_list PySem.F.slot_list_append PySem.F.type_list_append mt_append (pe_ix (ix_dg hu) ho2 hk2 hs2) (pa_cons hx pa_nil hs) hbase hfew hline hs rfl) rfl)) (pss_nil (X := X))
  refine (pss_cons h1 (pss_one h2)).imp fun D σ H ⟨w0, H0, w, env, W, rel, oo⟩ => ?_
  unfold xPutA at oo
  split at oo
  case h_2 => exact oo.elim
  rename_i ks vs hc0
  refine ⟨w0, H0, w, env, W, rel, oE.st oo rel fun x W1 v H1 w1 _ rel1 ext1 s1 rr1 o1 => ?_⟩
  split at o1
  case h_2 => exact o1.elim
  rename_i xs _
  obtain ⟨b, rfl, hbn, hbG, kb⟩ := rr1
  cases kb with
  | l hbe rx =>
  rename_i us
  have hbs : ∀ (j : Nat) (c : Ct), env[j]? = some (.own c) → σ[j]? ≠ some (some (V.ref b)) := rel.ns b hbn
  have hb0 := rel.tr0 b hbn
  obtain ⟨a, ev, h0, ng, k⟩ := rel1.sl i _ hc0
  refine ⟨.ref a, ev, ?_⟩
  refine ⟨w0, H0, w1, env, W1, rel1, oE.st o1 rel1 fun y W2 u H2 w3 _ rel3 ext3 s3 rr3 o3 => ?_⟩
  split at o3
  case h_2 => exact o3.elim
  rename_i kq hkq
  split at o3
  case isFalse => exact o3.elim
  rename_i hsz
  obtain ⟨a', ev3, h03, ng3, k3⟩ := rel3.sl i _ hc0
  rw [ev] at ev3
  cases ev3
  obtain ⟨hbe3, hbG3⟩ := ext3.kN hbe hbG (fun _ z => nomatch z)
  have rx3 : Rps g w3 H2 us xs := rx.mono ext3
  have lk3 := rr3.lk
  cases k3 with
  | k e1 e2 r =>
  rename_i kvs
  have hsz' : kvs.length < sizeLine := by
    rw [← sz_line]
    rw [← e2, List.length_map] at hsz
    exact hsz
  refine .inr ⟨a, upd H2 a (.dK (putK kvs kq (.ref b))), rfl, ?_, ?_⟩
  · rw [toKey_kv hkq lk3]
    exact DPut.k e1 hsz'
  have rel4 : Rel g pf w0 H0 (w3.frz b) env W2 σ H2 := rel3.frz hbe3 hbG3 hb0 hbs
  have ab : a ≠ b := fun z => hbs i _ hc0 (z ▸ ev)
  have ng4 : ¬ (w3.frz b).G a := fun z => z.elim ab ng3
  have rp4 : Rp g (w3.frz b) H2 (.ref b) (.lst xs) := .lst (.inl rfl) hbe3 rx3.frz
  obtain ⟨q1', q2'⟩ := putK_ok (q := kq) rp4 r.frz
  rw [e2] at q1' q2'
  obtain ⟨rel5, fz5⟩ := rel4.write (o := .dK (putK kvs kq (.ref b))) hc0 ev (.k upd_same q1' (q2'.fz (Fz.put rel4.wk ng4)))
  have fzA : Fz w3 H2 (w3.frz b) H2 := ⟨fun c f => ⟨.inr f, rfl⟩, fun _ _ h => h⟩
  refine ⟨w0, H0, w3.frz b, _, W2, rel5, oE.st0 o3 (fzA.trans fz5) rel5 fun z W3 zv H6 w6 _ rel6 ext6 s6 rr6 o6 => ?_⟩
  split at o6
  · refine ⟨false, rr_bl rr6, iteF (o6 w6 σ H6 ((fzA.trans fz5).trans ext6.fz) rel6)⟩
  · refine ⟨true, rr_bl rr6, iteT ?_⟩
    have hcont6 := ext6.kN (a := a) upd_same ng4 (fun _ z => nomatch z)
    refine ⟨.ref a, ev, ?_⟩
    refine ⟨w0, H0, w6, _, W3, rel6, oE.st0 o6 ((fzA.trans fz5).trans ext6.fz) rel6 fun k2 W4 k2v H7 w7 _ rel7 ext7 s7 rr7 o7 => ?_⟩
    split at o7
    case isFalse => exact o7.elim
    rename_i hk2q
    have hcont7 := ext7.kN hcont6.1 hcont6.2 (fun _ z => nomatch z)
    have hbF6 := ext6.kF b (.inl rfl)
    have hbF7 := ext7.kF b hbF6.1
    have hb4 : upd H2 a (.dK (putK kvs kq (.ref b))) b = some (.lst us) := by rw [upd_ne fun z => ab z.symm]; exact hbe3
    have hb7 : H7 b = some (.lst us) := by rw [hbF7.2, hbF6.2]; exact hb4
    refine ⟨a, .ref b, rfl, ?_, .inl ⟨rfl, us, SqL.of hb7⟩, ?_⟩
    · rw [toKey_kv hk2q rr7.lk]
      have := DGet.k (k := kq) hcont7.1
      rw [valV_put, if_pos rfl] at this
      exact this
    refine ⟨w0, H0, w7, _, W4, rel7, oE.st0 (p := px) o7 (((fzA.trans fz5).trans ext6.fz).trans ext7.fz) rel7 fun x8 W8 v8 H8 w8 _ rel8 ext8 s8 rr8 o8 => ?_⟩
    split at o8
    case h_2 => exact o8.elim
    rename_i p8
    split at o8
    case isFalse => exact o8.elim
    rename_i hfl
    obtain ⟨pp1, pp2, pp3⟩ := hpp (and2 (and2 hfl))
    have hb8 : H8 b = some (.lst us) := by rw [(ext8.kF b hbF7.1).2]; exact hb7
    refine ⟨b, us, v8, rfl, rfl, hb8, by rw [rx3.length, ← sz_line]; exact (of_decide_eq_true (and1 (and2 hfl))), ?_⟩
    obtain ⟨wB, rel9, fz9⟩ := rel3.back (q := kq) hc0 ev h03 ng3 e1 e2 r hbe3 hb0 hbG3 hbs rx3 (ext6.trans (ext7.trans ext8)) ((s6 pp1).trans ((s7 pp2).trans (s8 pp3))) rel8 (and1 hfl) rr8
    exact o8 wB σ _ fz9 rel9
  · exact o6.elim
end
end D

/-! D14T: try: .., except X as e: kept = e; the exception stays as a value. -/
namespace D
open PySem PySem.Spec PyProof.Rows L2
theorem exh_ok {P : Program} {u : World} {G : Hp} {h : Heap} {a : Addr} {cls : Value} {ob : Obj} {fs : Array Value} (h1 : h.get? a = some ob) (h2 : Zc cls none ob) (h3 : ob.data = .fields fs) : ObjOk P u G h a (ExH cls a) :=
  ⟨⟨ob, fs, h1, h2, h3⟩, ⟨ob, h1⟩, fun _ _ ⟨b, c, p, q⟩ l => ⟨b, c, l b p, q⟩⟩
section
variable {X : Cx} {pins : List (Addr × Obj)} {σ : L2.St} {H : Hp} {s0 s1 : Shared} {B : Heap} {a : Addr} {cls : Value} {ob : Obj} {fs : Array Value}
/-- back on the ground, the exception's object told of -/
theorem land_kept (I : Inv X pins σ H s0) (g1 : ∀ b o, s0.heap.get? b = some o → b ∉ frs X.stack → B.get? b = some o) (g2 : B.StaysIn s1.heap) (g3 : s0.heap.UpToSlots s1.heap) (g4 : s1.os = s0.os) (g5 : AllBare s1.gens)
    (h1 : s1.heap.get? a = some ob) (h2 : Zc cls none ob) (h3 : ob.data = .fields fs) (ha : H a = none) (hB : B.get? a = none) (hf : a ∉ frs X.stack) : Inv X pins σ (upd H a (ExH cls a)) s1 := by
  have new : ∀ o, s0.heap.get? a ≠ some o := fun o z => by
    have := g1 a o z hf
    rw [hB] at this; cases this
  have fr : ∀ b ∈ frs X.stack, ∀ o, s0.heap.get? b = some o → ∃ sl, s1.heap.get? b = some { o with slots := sl } := fun b hb o e => by
    obtain ⟨_, o2, e2, nf⟩ := I.stack.mem hb
    rw [e] at e2; cases e2
    exact g3 b o e nf
  have other : ∀ {b : Addr} {u : HO}, H b = some u → b ≠ a := fun {b u} e z => by rw [z, ha] at e; cases e
  have hok : HOk X.prog X.w (upd H a (ExH cls a)) s1.heap := HOk.laidN ((I.inGround g1).kept g2) (fun _ _ q => q) ha (exh_ok h1 h2 h3)
  have J := I.call (ch := []) (h' := s1.heap) (g' := s1.gens) (t' := s1.toks) (d' := s1.drawn) (H' := upd H a (ExH cls a))
    ⟨fun b o e _ hb _ => g2 b o (g1 b o e hb), fun b o e _ hb _ => fr b hb o e, fun b o e n _ => by rw [upd_ne fun z => new o (by rw [← z]; exact e)]; exact n, fun b o e _ => by
      by_cases hb : b ∈ frs X.stack
      · exact (fr b hb o e).elim fun sl q => ⟨_, q⟩
      · exact ⟨o, g2 b o (g1 b o e hb)⟩, fun b xs e => by rw [upd_ne (other e)]; exact e, fun b o u e => by rw [upd_ne (other e)]; exact e, fun b ps e => ⟨#[], by rw [upd_ne (other e), e]; simp⟩⟩
    hok g5 (fun _ z => nomatch z)
  obtain ⟨z1, z2, z3, z4, z5⟩ := s1
  have e5 : z5 = s0.os := g4
  subst e5
  exact J
theorem suite_in (I : Inv X pins σ H s0) (a : Addr) : Inv (X.suite a (X.pn ++ pins)) [] σ H s0 :=
  ⟨I.ok.suite _ _, I.os, I.bare, I.base, I.loc, I.cell, I.free, I.freeC, fun q hq => I.pin q (by rw [List.append_nil] at hq; exact hq), I.hok, I.len⟩
theorem suite_out {l : List (Addr × Obj)} (I : Inv (X.suite a (X.pn ++ pins)) l σ H s0) (k : X.Ok) : Inv X pins σ H s0 :=
  ⟨k, I.os, I.bare, I.base, I.loc, I.cell, I.free, I.freeC, fun q hq => I.pin q (List.mem_append_left _ hq), I.hok, I.len⟩
end
/-- what is wished of an exception of the body -/
def wKp (K : PySem.W.Frag) (c : Value) (i : Nat) (ts : Addr → Value → TS) (Wout : WX) (D : Ends) : WX := fun cls d σ H =>
  ∃ b, PySem.W.exmOne K cls c = some b ∧ (b = true → d = none ∧ ∀ a, H a = none → ts a cls { nx := fun σ1 H1 => D.nx (σ1.set i none) H1, rt := D.rt, bk := fun σ1 H1 => D.bk (σ1.set i none) H1, ct := fun σ1 H1 => D.ct (σ1.set i none) H1 } (σ.set i (some (.ref a))) (upd H a (ExH cls a))) ∧
    (b = false → Wout cls d σ H)
section
variable {X : Cx} {x n : Str} {c : Value} {i : Nat} {body suite : List Stmt} {st0 : Stmt} {p1 p2 p3 : Pos} {tb : WX → TS} {ts : Addr → Value → TS} {Wout : WX}
theorem try_kept (h1 : X.stack = X.env :: X.outer) (h2 : X.env.frame = some X.env.locals) (h3 : X.N.Nodup) (h4 : X.N[i]? = some n) (h5 : X.env.kindOf n = some .local) (h6 : Names X x c) (tk : Takes X Wout)
    (hb : ∀ (W : WX) (l : List (Addr × Obj)) (xe : Value → Shared → Prop), Takes (X.tr l xe) W → PassesOwn (model X.prog X.w) X.A X.env xe → PSs (X.tr l xe) body (tb W))
    (hs : ∀ (a : Addr) (cls : Value) (l : List (Addr × Obj)), PSs (X.suite a l) (st0 :: suite) (ts a cls)) :
    PS X (.Try body [.ExceptHandler (some (.Name x p1)) (some n) (st0 :: suite) p2] [] [] p3) (fun D σ H => tb (wKp X.K c i ts Wout D) D σ H) := by
  refine ⟨fun pins s σ H D I hh => wpAny_Try_except ?_⟩
  have ok := I.ok
  have fr1 : X.A.frames = some (X.env :: X.outer) := by rw [ok.frames, h1]
  refine wpAny_mono ((hb (wKp X.K c i ts Wout D) (X.pn ++ pins) (fun e t1 => wpAny (model X.prog X.w) X.A (noteFrame e X.env) (fun _ t2 => wpAny (model X.prog X.w) X.A (setFlight e none) (fun _ t3 =>
    wpAny (model X.prog X.w) X.A (handleBy e X.env [.ExceptHandler (some (.Name x p1)) (some n) (st0 :: suite) p2]) (SP X pins D) X.xe t3) X.xe t2) X.xe t1) (fun u t0 xx => ?_) PassesOwn.looking).run [] s σ H D (I.toTry _) hh) (fun f t1 out => ?_) (fun e t1 he => he)
  · obtain ⟨a, B, sI, pl, σ1, H1, cls, d, rfl, J0, nb, up, sky, na, os, ag, b, e1, yes, no⟩ := xx
    have J : Inv X pins σ1 H1 sI := J0.ofTry ok
    have sky1 : Sky B (X.env :: X.outer) a (Zc cls d) X.env.locals t0.heap := by rw [← h1]; exact sky
    show wpAny (model X.prog X.w) X.A (noteFrame (.ref a) X.env) _ _ _
    refine Sky.land Zc.steady fr1 h2 sky1 fun hp3 fl3 up3 => ?_
    have J3 := J.landed (s' := { t0 with heap := hp3 }) nb fl3.1 (up.trans up3) os ag
    obtain ⟨ob3, fs3, a3, z3, d3⟩ := fl3.there
    have notIn : a ∉ frs X.stack := fun hm => by
      rw [h1] at hm
      obtain ⟨_, o2, e2, nf⟩ := fl3.2.2.1.mem hm
      rw [a3] at e2; cases e2
      exact nf _ d3
    have nL : a ≠ X.env.locals := fun z => notIn (by rw [h1]; exact List.mem_filterMap.mpr ⟨X.env, List.mem_cons_self, by rw [h2, z]⟩)
    have nF : a ∉ X.fs := fun hm => by
      obtain ⟨e, he, q⟩ := List.mem_filterMap.mp hm
      exact notIn (by rw [h1]; exact List.mem_filterMap.mpr ⟨e, List.mem_cons_of_mem _ he, q⟩)
    have S3 := J3.suite a3 d3 na nL nF
    refine wpAny_handleBy_cons (codeAny_handlers_test ?_) (by intro q; cases q)
    have LT : PySem.W.Looks (model X.prog X.w) hp3 (typeOf (.ref a)) cls := fun A Q E t k q => wpAny_typeOf_ref (k _ _ a3) (by rw [z3.1]; exact q)
    have LM := PySem.W.exm_one (M := model X.prog X.w) J3.kIn LT e1
    have look : ∀ {Q : Value → Shared → Prop} {E : Value → Shared → Prop}, Q c { t0 with heap := hp3 } → wpAny (model X.prog X.w) (X.A.mark (some (.ref a))) (eval (.Name x p1) X.env) Q E { t0 with heap := hp3 } := fun {Q E} q => by
      obtain ⟨k1, k2, k3 | ⟨k3, k4, k5⟩⟩ := h6
      · exact ld_glob (X := X.suite a ((a, ob3) :: (X.pn ++ pins))) S3 k1 k3 q k2
      · exact ld_blt (X := X.suite a ((a, ob3) :: (X.pn ++ pins))) S3 k1 k3 k4 q k5 k2
    refine look (LM.here ?_)
    cases b with
    | true =>
      obtain ⟨dn, yes2⟩ := yes rfl
      subst dn
      refine codeAny_handlers_suite_as (HandSPX.lands_againZ fl3 fun hp4 fl4 up4 => ?_)
      obtain ⟨ob4, fs4, a4, z4, d4⟩ := fl4.there
      have J4 := land_kept (s1 := { t0 with heap := hp4 }) J nb fl4.1 ((up.trans up3).trans up4) os ag a4 z4 d4 na fl4.2.1 notIn
      refine store_ok (X := X.suite a (X.pn ++ pins)) (v := .ref a) (suite_in J4 a) h3 h4 (.inl h5) rfl (fun t5 S5 => ?_) (.inr h5)
      refine wpAny_mono ((hs a cls (X.pn ++ pins)).run [] t5 _ _ _ S5 (yes2 a na)) (fun f t6 out => ?_) (fun _ _ z => z.elim)
      have fin : ∀ {σ6 : L2.St} {H6 : Hp} {Q : Shared → Prop}, Inv (X.suite a (X.pn ++ pins)) [] σ6 H6 t6 → (∀ t7, Inv X pins (σ6.set i none) H6 t7 → Q t7) → wpAny (model X.prog X.w) X.A (do bindName X.env n .none; unbindBehindTheSuite X.env n p2) (fun _ t7 => Q t7) X.xe t6 :=
        fun {σ6 H6 Q} S6 hq => gone_ok (suite_out S6 ok) h3 h4 h5 hq
      cases f with
      | next => obtain ⟨σ6, H6, S6, q6⟩ := out; exact fin S6 fun t7 J7 => ⟨_, _, J7, q6⟩
      | brk => obtain ⟨σ6, H6, S6, q6⟩ := out; exact fin S6 fun t7 J7 => ⟨_, _, J7, q6⟩
      | cont => obtain ⟨σ6, H6, S6, q6⟩ := out; exact fin S6 fun t7 J7 => ⟨_, _, J7, q6⟩
      | ret u => obtain ⟨v6, σ6, H6, S6, r6, q6⟩ := out; exact fin S6 fun t7 J7 => ⟨_, _, _, J7, r6, q6⟩
    | false =>
      show wpAny _ X.A (handleBy (.ref a) X.env []) _ _ _
      refine wpAny_handleBy_nil ?_
      obtain ⟨m1, m2, m3, ob, fs, T, oT, ts', he, hz, hd, hT, hr⟩ := id fl3
      unfold PySem.passOn
      refine wpAny_bind (wpAny_field he hd hT ?_)
      rw [if_neg (by simp : ¬ ((Value.ref T == Value.none) = true))]
      have on : wpAny (model X.prog X.w) X.A (setFlight (.ref a) X.env.frame) (fun _ t4 => wpAny (model X.prog X.w) X.A (throw (.ref a) : Sem Flow) (SP X pins D) X.xe t4) X.xe { t0 with heap := hp3 } := by
        rw [h2]
        exact HandSPX.setFlight_upZ fl3 fun hp4 hh4 up4 => wpAny_throw (tk _ _ ⟨a, B, sI, pins, σ1, H1, cls, d, rfl, J, nb, (up.trans up3).trans up4, .inr (.inr (by rw [h1]; exact hh4)), na, os, ag, no rfl⟩)
      first | exact wpAny_bind (wpAny_pure (wpAny_bind on)) | exact wpAny_bind on
  · cases f with
    | next => obtain ⟨σ1, H1, J1, q⟩ := out; exact wpAny_execs_nil ⟨σ1, H1, J1.ofTry ok, q⟩
    | brk => obtain ⟨σ1, H1, J1, q⟩ := out; exact ⟨σ1, H1, J1.ofTry ok, q⟩
    | cont => obtain ⟨σ1, H1, J1, q⟩ := out; exact ⟨σ1, H1, J1.ofTry ok, q⟩
    | ret u => obtain ⟨v, σ1, H1, J1, r, q⟩ := out; exact ⟨v, σ1, H1, J1.ofTry ok, r, q⟩
end
end D

/-! D14I: statements on instances; pop; a, b = x, y. -/
namespace D
open PySem PySem.Spec PyProof.Rows L2
section
variable {g : Gx} {pf : Bool} {w0 w w' : Wd} {H0 H H' : Hp} {env : Ev} {W W' : Om} {σ : L2.St}
/-- the slots stand, where only what is the instances' was changed -/
theorem Rel.upO (rel : Rel g pf w0 H0 w env W σ H) (hpf : pf = false) (wk' : WOk g w' W' H') (kF : ∀ b, w.F b → w'.F b ∧ H' b = H b) (kG : ∀ b, w.G b → w'.G b) (kR : ∀ b o, H b = some o → ¬ w.G b → H' b = some o) (ob : w'.ob = w.ob)
    (nG : ∀ b, w'.G b → w.G b ∨ (H0 b = none ∧ ∀ (i : Nat) (c : Ct), env[i]? = some (.own c) → σ[i]? ≠ some (some (V.ref b)))) (tr : ∀ a, H' a = none → H a = none) : Rel g pf w0 H0 w' env W' σ H' ∧ Fz w H w' H' := by
  have fz : Fz w H w' H' := ⟨kF, fun n a h => by rw [ob]; exact h⟩
  refine ⟨⟨wk', ⟨fun b f => ?_, fun b z => kG b (rel.ext.kG b z), fun b o e ng => ?_, fun n a h => by rw [ob]; exact rel.ext.kO n a h⟩, fun a h => rel.tr0 a (tr a h), fun z => (by rw [hpf] at z; cases z), rel.len, fun i s h => ?_, rel.dj⟩, fz⟩
  · obtain ⟨f1, e1⟩ := rel.ext.kF b f
    obtain ⟨f2, e2⟩ := kF b f1
    exact ⟨f2, e2.trans e1⟩
  · obtain ⟨h1, n1⟩ := rel.ext.kR b o e ng
    by_cases hg : w.G b
    · obtain ⟨f1, t1⟩ := n1 hg
      obtain ⟨f2, e2⟩ := kF b f1
      exact ⟨e2.trans h1, fun _ => ⟨f2, t1⟩⟩
    · exact ⟨kR b o h1 hg, fun z => (nG b z).elim (fun q => absurd q hg) fun q => by rw [q.1] at e; cases e⟩
  · have q := rel.sl i s h
    cases s with
    | un => trivial
    | val p => obtain ⟨v, e1, r⟩ := q; exact ⟨v, e1, r.fz fz⟩
    | own c =>
      obtain ⟨a, e1, hn, ng, k⟩ := q
      obtain ⟨o, ho⟩ := k.ex
      exact ⟨a, e1, hn, fun z => (nG a z).elim ng fun q => q.2 i c h e1, k.fz fz ((kR a o ho ng).trans ho.symm)⟩
/-- where a field's own list or dict stands -/
theorem objF_ok (rel : Rel g pf w0 H0 w env W σ H) {i n : Nat} {f : Str} {o : Ob} {c : Ct} (h : objF env W i f = some (n, o, c)) : ∃ (a dx b : Addr) (l : List (Str × V)), σ[i]? = some (some (.ref a)) ∧ w.ob[n]? = some a ∧ W[n]? = some o ∧ H a = some (.ins (g.cc o.cls) dx l) ∧ o.cls < g.nc ∧ o.fs.lookup f = some (.own c) ∧ l.lookup f = some (.ref b) ∧ w.G b ∧ ¬ w.F b ∧ CtOk g w H b c := by
  unfold objF at h
  split at h
  · rename_i m hm
    split at h
    · rename_i o1 ho1
      split at h
      · rename_i c1 hc1
        cases h
        obtain ⟨v, e1, r⟩ := rel.sl i _ hm
        obtain ⟨a, rfl, ha⟩ := Rp.obj' r
        have at1 := rel.wk.og n a o ha ho1
        obtain ⟨dx, l, hl, hf⟩ := at1.st
        obtain ⟨v', e2, b, rfl, h1, h2, h3⟩ := hf.get hc1
        exact ⟨a, dx, b, l, e1, ha, ho1, hl, at1.cl, hc1, e2, h1, h2, h3⟩
      · cases h
    · cases h
  · cases h
theorem isNone_ne {α : Type} {o : Option α} (h : ¬ o.isNone = true) : ∃ a, o = some a := by cases o <;> simp at h ⊢
/-- .. and is written -/
theorem Rel.writeF (rel : Rel g pf w0 H0 w env W σ H) (hpf : pf = false) {n : Nat} {f : Str} {o : Ob} {c c' : Ct} {a dx b : Addr} {l : List (Str × V)} {ho' : HO} (ha : w.ob[n]? = some a) (ho : W[n]? = some o) (hl : H a = some (.ins (g.cc o.cls) dx l)) (hf : o.fs.lookup f = some (.own c)) (e1 : l.lookup f = some (.ref b))
    (hG : w.G b) (hF : ¬ w.F b) (k : CtOk g w H b c) (k' : CtOk g w (upd H b ho') b c') : Rel g pf w0 H0 w env (putO W n o f (.own c')) σ (upd H b ho') ∧ Fz w H w (upd H b ho') := by
  have wk := rel.wk
  have own0 : OwnAt w W H n f b := ⟨a, o, _, dx, l, c, ha, ho, hl, hf, e1⟩
  have kF : ∀ d, w.F d → w.F d ∧ upd H b ho' d = H d := fun d z => ⟨z, upd_ne fun q => hF (q ▸ z)⟩
  have fz : Fz w H w (upd H b ho') := ⟨kF, fun _ _ h => h⟩
  have nb : ∀ (m : Nat) (d : Addr), w.ob[m]? = some d → d ≠ b := fun m d hm => ob_ne wk hm k
  have tr : ∀ d, upd H b ho' d = none → H d = none := fun d z => by
    by_cases e : d = b
    · subst e; rw [upd_same] at z; cases z
    · rwa [upd_ne e] at z
  have wk' : WOk g w (putO W n o f (.own c')) (upd H b ho') := wk.put1 rfl wk.FG (fun d z => by
      by_cases e : d = b
      · subst e; exact ⟨_, upd_same⟩
      · rw [upd_ne e]; exact wk.tr d z) fz ha ho hl (by rw [putF_self e1, upd_ne (nb n a ha)]; exact hl) (fun m d hm => ⟨(wk.obG hm).1, (wk.obG hm).2, fun _ => upd_ne (nb m d hm)⟩)
    (fun m kx d hm hne => by
      obtain ⟨ct, k1, g1, f1⟩ := hm.ct wk
      refine ⟨upd_ne fun q => ?_, g1, f1⟩
      subst q
      exact hne (wk.oc _ _ _ _ _ hm own0)) ⟨b, rfl, hG, hF, k'⟩ (fun ct d e2 e3 m kx hne hm => by
      cases e3
      exact hne (wk.oc _ _ _ _ _ hm own0))
  exact rel.upO hpf wk' kF (fun _ z => z) (fun d u e ng => by rw [upd_ne fun q : d = b => ng (q ▸ hG)]; exact e) rfl (fun _ z => .inl z) tr
end
section
variable {X : Cx} {g : Gx} {pf p p' pk : Bool} {Wx : WX} {fa fe fk fv f0 : F} {kx vx o : Expr} {pos apos cpos : Pos}
/-- o.f = e -/
theorem s_fset {f : Str} {p2 : Pos} (hpf : pf = false) (hcl : ∀ c, c < g.nc → Cls X.K (g.cc c)) (hna : ∀ c, c < g.nc → NoAttr X.K (g.cc c) f) (ha : PE X o (tE g pf Wx p fa)) (hv : PE X vx (tE g pf Wx p' fe)) (hs : swapsWith vx (some (.Attribute o f p2)) pos.line X.env = pure false) :
    PS X (.Assign [.Attribute o f p2] vx pos) (tS g pf Wx (xFset fa f fe)) := (ps_fld ha hv hs).imp fun D σ H ⟨w0, H0, w, env, W, rel, oo⟩ => by
  unfold xFset at oo
  refine ⟨w0, H0, w, env, W, rel, oE.st oo rel fun r W1 y H1 w1 _ rel1 ext1 s1 rr1 o1 => ⟨w0, H0, w1, env, W1, rel1, oE.st o1 rel1 fun x W2 xv H2 w2 _ rel2 ext2 s2 rr2 o2 => ?_⟩⟩
  split at o2
  case h_2 => exact o2.elim
  rename_i n _
  obtain ⟨a, rfl, haw⟩ := Rp.obj' rr2
  split at o2
  case h_2 => exact o2.elim
  rename_i ob hob
  split at o2
  case h_2 => exact o2.elim
  rename_i s hsl
  split at o2
  case isFalse => exact o2.elim
  rename_i hlen
  have wk := rel2.wk
  have at1 := wk.og n a ob haw hob
  obtain ⟨dx, l, hl, hf⟩ := at1.st
  refine ⟨a, _, dx, l, rfl, hl, hcl _ at1.cl, hna _ at1.cl, by rw [hf.length]; omega, ?_⟩
  have na : ∀ d ct, CtOk g w2 H2 d ct → d ≠ a := fun d ct k => (ob_ne wk haw k).symm
  have kF : ∀ d, w2.F d → upd H2 a (.ins (g.cc ob.cls) dx (putF f y l)) d = H2 d := fun d z => upd_ne fun q => at1.hF (q ▸ z)
  have tr : ∀ d, upd H2 a (.ins (g.cc ob.cls) dx (putF f y l)) d = none → H2 d = none := fun d z => by
    by_cases e : d = a
    · subst e; rw [upd_same] at z; cases z
    · rwa [upd_ne e] at z
  have oth : ∀ (m : Nat) (d : Addr), w2.ob[m]? = some d → m ≠ n → d ≠ a := fun m d hm hne q => hne (wk.oi m n a (q ▸ hm) haw)
  have rr1' := rr1.next ext2
  cases r with
  | bor c => cases hsl
  | val q =>
    cases hsl
    have rp : Rp g w2 H2 y q := rr1' fun z => by cases z
    have fz : Fz w2 H2 w2 (upd H2 a (.ins (g.cc ob.cls) dx (putF f y l))) := ⟨fun d z => ⟨z, kF d z⟩, fun _ _ h => h⟩
    have wk' : WOk g w2 (putO W2 n ob f (.val q)) (upd H2 a (.ins (g.cc ob.cls) dx (putF f y l))) := wk.put1 rfl wk.FG (fun d z => by
        by_cases e : d = a
        · subst e; exact ⟨_, upd_same⟩
        · rw [upd_ne e]; exact wk.tr d z) fz haw hob hl upd_same (fun m d hm => ⟨(wk.obG hm).1, (wk.obG hm).2, fun hne => upd_ne (oth m d hm hne)⟩)
      (fun m kx d hm hne => by
        obtain ⟨ct, k1, g1, f1⟩ := hm.ct wk
        exact ⟨upd_ne (na d ct k1), g1, f1⟩) (rp.fz fz) (fun ct d e => by cases e)
    obtain ⟨rel3, fz3⟩ := rel2.upO hpf wk' (fun d z => ⟨z, kF d z⟩) (fun _ z => z) (fun d u e ng => by rw [upd_ne fun q : d = a => ng (q ▸ at1.hG)]; exact e) rfl (fun _ z => .inl z) tr
    exact o2 w2 σ _ fz3 rel3
  | fre c =>
    cases hsl
    obtain ⟨b, rfl, hbn, hbG, k⟩ := rr1' fun z => by cases z
    have hab : b ≠ a := na b c k
    let w3 : Wd := ⟨w2.ob, w2.F, fun d => d = b ∨ w2.G d⟩
    have fz : Fz w2 H2 w3 (upd H2 a (.ins (g.cc ob.cls) dx (putF f (.ref b) l))) := ⟨fun d z => ⟨z, kF d z⟩, fun _ _ h => h⟩
    have wk' : WOk g w3 (putO W2 n ob f (.own c)) (upd H2 a (.ins (g.cc ob.cls) dx (putF f (.ref b) l))) := wk.put1 rfl (fun d z => .inr (wk.FG d z)) (fun d z => by
        by_cases e : d = a
        · subst e; exact ⟨_, upd_same⟩
        · rw [upd_ne e]
          rcases z with rfl | z
          · exact k.ex
          · exact wk.tr d z) fz haw hob hl upd_same (fun m d hm => ⟨.inr (wk.obG hm).1, (wk.obG hm).2, fun hne => upd_ne (oth m d hm hne)⟩)
      (fun m kx d hm hne => by
        obtain ⟨ct, k1, g1, f1⟩ := hm.ct wk
        exact ⟨upd_ne (na d ct k1), .inr g1, f1⟩) ⟨b, rfl, .inl rfl, fun z => hbG (wk.FG b z), k.fz fz (upd_ne hab)⟩ (fun ct d e1 e2 m kx hne hm => by
        cases e2
        obtain ⟨ct, k1, g1, f1⟩ := hm.ct wk
        exact hbG g1)
    have ns := rel.ns b hbn
    obtain ⟨rel3, fz3⟩ := rel2.upO (w' := w3) hpf wk' (fun d z => ⟨z, kF d z⟩) (fun _ z => .inr z) (fun d u e ng => by rw [upd_ne fun q : d = a => ng (q ▸ at1.hG)]; exact e) rfl (fun d z => z.elim (fun q => .inr (q ▸ ⟨rel.tr0 b hbn, ns⟩)) .inl) tr
    exact o2 w3 σ _ fz3 rel3
/-- s.f[k] = v -/
theorem s_fput (hu : X.A.units + 1 < cLine) {i : Nat} {f : Str} {p2 p3 : Pos} (hpf : pf = false) (hcl : ∀ c, c < g.nc → Cls X.K (g.cc c)) (hna : ∀ c, c < g.nc → NoAttr X.K (g.cc c) f) (ho : PE X o (tVar i)) (hb : attributeBase o f X.env (eval o X.env) = eval o X.env) (hpk : pk = true → p = true) (hk : PE X kx (tE g pf Wx p fk)) (hv : PE X vx (tE g pf Wx p' fv)) (hn : noSl kx = true) :
    PS X (.Assign [.Subscript (.Attribute o f p3) kx p2] vx pos) (tS g pf Wx (xFput i f fk fv pk)) := by
  have hsw : swapsWithSole [.Subscript (.Attribute o f p3) kx p2] vx pos.line X.env = pure false := by cases vx <;> rfl
  refine (ps_asg hv (pg_sub (pe_fld ho hb) hk (PSet.or set_list (set_dict hu)) (by intro v; cases kx <;> first | rfl | cases hn)) hsw rfl).imp fun D σ H ⟨w0, H0, w, env, W, rel, oo⟩ => ?_
  unfold xFput at oo
  refine ⟨w0, H0, w, env, W, rel, oE.st oo rel fun x W1 v H1 w1 _ rel1 ext1 s1 rr1 o1 => ?_⟩
  split at o1
  case h_2 => exact o1.elim
  rename_i pv hpv
  split at o1
  case isTrue => exact o1.elim
  rename_i hsome
  obtain ⟨⟨n, ob, c⟩, hobj⟩ := isNone_ne hsome
  obtain ⟨w2, rp, fz, x1, x2, x3, _⟩ := rr1.plain (w0 := w0) (H0 := H0) hpv rel1.wk rel.tr0
  have rel2 := x2 env W1 σ rel1 rel.ns
  have o2 := o1.shift fz
  obtain ⟨a, dx, b, l, ev, ha, hob, hl, hcls, hfo, e1, hG, hF, k⟩ := objF_ok rel2 hobj
  refine ⟨.ref a, ev, a, _, dx, l, .ref b, rfl, hl, hcl _ hcls, hna _ hcls, e1, ?_⟩
  refine ⟨w0, H0, w2, env, W1, rel2, oE.st o2 rel2 fun y W2 u H2 w3 _ rel3 ext3 s3 rr3 o3 => ?_⟩
  split at o3
  case isTrue => exact o3.elim
  rename_i hbk
  have hpk2 : pk = true := by cases pk <;> simp at hbk ⊢
  have sm := s3 (hpk hpk2)
  split at o3
  case h_2 => exact o3.elim
  rename_i n2 ob2 c2 hobj2
  split at o3
  case h_2 => exact o3.elim
  rename_i c' hput
  obtain ⟨a2, dx2, b2, l2, ev2, ha2, hob2, hl2, hcls2, hfo2, e2, hG2, hF2, k2⟩ := objF_ok rel3 hobj2
  rw [ev] at ev2
  cases ev2
  have hl3 := sm a _ hl
  rw [hl2] at hl3
  simp only [Option.some.injEq, HO.ins.injEq] at hl3
  obtain ⟨-, rfl, rfl⟩ := hl3
  rw [e1] at e2
  cases e2
  have rp3 : Rp g w3 H2 v pv := rp.mono ext3
  have lk3 := rr3.lk
  have fzb : ∀ u, Fz w3 H2 w3 (upd H2 b u) := fun u => ⟨fun d z => ⟨z, upd_ne fun q => hF2 (q ▸ z)⟩, fun _ _ h => h⟩
  generalize y.look = q at hput lk3
  unfold putC at hput
  split at hput
  · split at hput
    · rename_i j hj
      cases hput
      cases k2 with
      | l e3 r =>
        rename_i vs
        refine .inl ⟨b, vs, _, j, rfl, lk3.int, e3, by rw [r.length]; exact hj, ?_⟩
        obtain ⟨rel4, fz4⟩ := rel3.writeF hpf (ho' := .lst (vs.set j v)) ha2 hob2 hl2 hfo2 e1 hG2 hF2 (.l e3 r) (.l upd_same ((r.set j rp3).fz (fzb _)))
        exact o3 w3 σ _ fz4 rel4
    · cases hput
  · split at hput
    · rename_i kq hkq
      split at hput
      · rename_i hsz
        cases hput
        cases k2 with
        | k e3 e4 r =>
          rename_i kvs
          subst e4
          rw [List.length_map] at hsz
          refine .inr ⟨b, upd H2 b (.dK (putK kvs kq v)), rfl, ?_, ?_⟩
          · rw [toKey_kv hkq lk3]
            exact DPut.k e3 (by rw [← sz_line]; exact hsz)
          · obtain ⟨q1, q2⟩ := putK_ok (q := kq) rp3 r
            obtain ⟨rel4, fz4⟩ := rel3.writeF hpf (ho' := .dK (putK kvs kq v)) ha2 hob2 hl2 hfo2 e1 hG2 hF2 (.k e3 rfl r) (.k upd_same q1 (q2.fz (fzb _)))
            exact o3 w3 σ _ fz4 rel4
      · cases hput
    · cases hput
  · split at hput
    · rename_i kq hkq
      split at hput
      · rename_i hsz
        cases hput
        cases k2 with
        | t e3 e4 r =>
          rename_i kvs
          subst e4
          rw [List.length_map] at hsz
          obtain ⟨d, us, rfl, hb2, rk⟩ := lk3.tupK (slk_key hkq)
          rw [toKeys_kv hkq rk] at hb2
          refine .inr ⟨b, upd H2 b (.dT (putK kvs kq v)), rfl, DPut.t e3 hb2 (by rw [← sz_line]; exact hsz), ?_⟩
          obtain ⟨q1, q2⟩ := putK_ok (q := kq) rp3 r
          obtain ⟨rel4, fz4⟩ := rel3.writeF hpf (ho' := .dT (putK kvs kq v)) ha2 hob2 hl2 hfo2 e1 hG2 hF2 (.t e3 rfl r) (.t upd_same q1 (q2.fz (fzb _)))
          exact o3 w3 σ _ fz4 rel4
      · cases hput
    · cases hput
  · cases hput
/-- s.f.append(e) -/
theorem s_fapp {i : Nat} {f : Str} {p3 : Pos} {e : Expr} (hpf : pf = false) (hcl : ∀ c, c < g.nc → Cls X.K (g.cc c)) (hna : ∀ c, c < g.nc → NoAttr X.K (g.cc c) f) (ho : PE X o (tVar i)) (hb : attributeBase o f X.env (eval o X.env) = eval o X.env) (hb2 : attributeBase (.Attribute o f p3) "append" X.env (eval (.Attribute o f p3) X.env) = eval (.Attribute o f p3) X.env) (hpk : pk = true → p = true) (h : PE X e (tE g pf Wx p fe)) (hline : (apos.endLine == cpos.line) = true)
    (hs : starEach [e] X.env = (false, eval e X.env) :: starEach [] X.env) : PS X (.Expr (.Call (.Attribute (.Attribute o f p3) "append" apos) [e] [] cpos) pos) (tS g pf Wx (xFapp i f fe pk)) := by
  have hfew : ((backTo cpos (starEach [e] X.env)).all (fun x => !x.1) && (backToKw cpos (keywordEach [] X.env)).all (fun x => x.1.isSome)
      && decide ([e].length + ([] : List Keyword).length + (if ([] : List Keyword).isEmpty then 0 else 1) < 30)) = true := by rw [hs]; rfl
  refine (ps_expr (pe_bm PySem.F.plainAttrs_list PySem.F.slot_list_append PySem.F.type_list_append mt_append (pe_fld ho hb) (pa_cons h pa_nil hs) hb2 hfew hline hs rfl) rfl).imp fun D σ H ⟨w0, H0, w, env, W, rel, oo⟩ => ?_
  unfold xFapp at oo
  split at oo
  case isTrue => exact oo.elim
  rename_i hisl
  have hisl : isLc (objF env W i f) = true := by simpa using hisl
  cases hobj : objF env W i f with
  | none => rw [hobj] at hisl; cases hisl
  | some q =>
  obtain ⟨n, ob, c⟩ := q
  rw [hobj] at hisl
  cases c with
  | k _ _ => cases hisl
  | t _ _ => cases hisl
  | l xs0 =>
  obtain ⟨a, dx, b, l, ev, ha, hob, hl, hcls, hfo, e1, hG, hF, k⟩ := objF_ok rel hobj
  refine ⟨.ref a, ev, a, _, dx, l, .ref b, rfl, hl, hcl _ hcls, hna _ hcls, e1, ?_⟩
  cases k with
  | l e3 r0 =>
  rename_i vs0
  refine ⟨.inl ⟨rfl, vs0, SqL.of e3⟩, ?_⟩
  refine ⟨w0, H0, w, env, W, rel, oE.st (p := p) oo rel fun x W1 v H1 w1 _ rel1 ext1 s1 rr1 o1 => ?_⟩
  split at o1
  case h_2 => exact o1.elim
  rename_i pv hpv
  split at o1
  case isFalse => exact o1.elim
  rename_i hpk2
  have sm := s1 (hpk hpk2)
  obtain ⟨w2, rp, fz, x1, x2, x3, _⟩ := rr1.plain (w0 := w0) (H0 := H0) hpv rel1.wk rel.tr0
  have rel2 := x2 env W1 σ rel1 rel.ns
  split at o1
  case h_2 => exact o1.elim
  rename_i n2 ob2 xs hobj2
  split at o1
  case isFalse => exact o1.elim
  rename_i hsz
  obtain ⟨a2, dx2, b2, l2, ev2, ha2, hob2, hl2, hcls2, hfo2, e2, hG2, hF2, k2⟩ := objF_ok rel2 hobj2
  rw [ev] at ev2
  cases ev2
  have hl3 := sm a _ hl
  rw [hl2] at hl3
  simp only [Option.some.injEq, HO.ins.injEq] at hl3
  obtain ⟨-, rfl, rfl⟩ := hl3
  rw [e1] at e2
  cases e2
  cases k2 with
  | l e4 r =>
  rename_i vs
  refine ⟨b, vs, v, rfl, rfl, e4, by rw [r.length, ← sz_line]; exact hsz, ?_⟩
  have fzb : ∀ u, Fz w2 H1 w2 (upd H1 b u) := fun u => ⟨fun d z => ⟨z, upd_ne fun q => hF2 (q ▸ z)⟩, fun _ _ h => h⟩
  obtain ⟨rel3, fz3⟩ := rel2.writeF hpf (ho' := .lst (vs ++ [v])) ha2 hob2 hl2 hfo2 e1 hG2 hF2 (.l e4 r) (.l upd_same ((r.append (.cons rp .nil)).fz (fzb _)))
  exact o1 w2 σ _ (fz.trans fz3) rel3
end
/-! ### pop -/
section
variable {g : Gx} {w : Wd} {H : Hp}
theorem dropK_ok {κ : Type} [DecidableEq κ] {q : κ} : ∀ {kvs : List (κ × V)} {xs : List PV}, Rps g w H (kvs.map (·.2)) xs → (dropK kvs q).map (·.1) = dropKs (kvs.map (·.1)) q ∧ Rps g w H ((dropK kvs q).map (·.2)) (dropVs (kvs.map (·.1)) xs q)
  | [], xs, h => by cases h; exact ⟨rfl, .nil⟩
  | kv :: kvs, xs, h => by
    cases h with
    | cons r t =>
      obtain ⟨h1, h2⟩ := dropK_ok (q := q) t
      unfold dropK at h1 h2 ⊢
      unfold dropKs at h1 ⊢
      by_cases hk : kv.1 = q
      · simp only [List.map_cons, List.filter_cons, hk, ne_eq, not_true, decide_false, Bool.false_eq_true, if_false, dropVs, if_true]
        exact ⟨h1, h2⟩
      · simp only [List.map_cons, List.filter_cons, hk, ne_eq, not_false_eq_true, decide_true, if_true, dropVs, if_false]
        exact ⟨by rw [h1], .cons r h2⟩
end
end D
namespace D.PP
open PySem PySem.W PySem.Calls PyProof.Rows PyProof.V PySem.Spec L2
section
variable {prog : Program} {u0 : World} {K : Type} [DecidableEq K] {knd : HeapKind prog u0 K}
theorem meetsPopOne {d b : Addr} {k : K} (hd : (d == sysModules) = false) :
    MeetsIn prog u0 (Builtin.«dict.pop» ⟨[.ref d, .ref b], []⟩) (fun A R s => ∃ xs p, knd.room A.in1 ∧ knd.is s.heap k b ∧ s.heap.DictOfH knd d xs ∧ xs.length ≤ sizeLine ∧ atKey xs k = some p ∧
      ∀ h' tk, h'.DictOfH knd d (DT.dropH xs k) → Heap.SameBut d s.heap h' → R (.ok (.ret p.2)) { s with heap := h', toks := tk }) := .of_wp fun A R s ⟨xs, p0, room, iskey, dict, small, there, more⟩ => by
  obtain ⟨o, es, ep, h1, h2, h3, h4, _, _⟩ := id dict
  have ne : es.isEmpty = false := by
    cases em : es.isEmpty with
    | false => rfl
    | true =>
      have z0 : es.size = 0 := by simpa using em
      have z : xs.length = 0 := by rw [← size_of_entries h4]; exact z0
      rw [List.length_eq_zero_iff.mp z] at there
      cases there
  unfold Builtin.«dict.pop»
  refine wpAny_bind ?_
  unfold Builtin.Dict.keyAndDefault
  refine wpAny_bind (wpAny_notOrdered_dict dict.typeIs ?_)
  show wpAny _ _ (pure (d, Value.ref b, none)) _ _ s
  refine wpAny_pure ?_
  have part : (keyPart (Value.ref b)).isSome = false := rfl
  simp only [part, Bool.false_eq_true, if_false]
  refine wpAny_bind (wpAny_dictEntries h1 h3 (wpAny_bind (wpAny_pure ?_)))
  simp only [ne, Bool.false_eq_true, if_false]
  refine wpAny_bind (DT.takeH room iskey dict small (fun no => by rw [there] at no; cases no) fun p e hp hev h' hm' hs' => ?_)
  rw [there] at hp
  cases hp
  simp only [Option.isNone_some, Bool.false_eq_true, if_false]
  exact wpAny_bind (wpAny_letGo (wpAny_pure ⟨e.val, rfl, by rw [hev]; exact more h' _ hm' hs'⟩))
end
end D.PP
namespace D
open PySem PySem.Spec PyProof.Rows L2
/-- d.pop(k), k being there -/
def rPop1 : V → List V → Hp → VK → Prop := fun x xs H Q => ∃ a : Addr, x = .ref a ∧ ((∃ (kvs : List (Key × V)) (k : Key) (v : V), xs = [kV k] ∧ H a = some (.dK kvs) ∧ valV kvs k = some v ∧ Q v (upd H a (.dK (dropK kvs k)))) ∨
  ∃ (kvs : List (List Key × V)) (k : List Key) (b : Addr) (v : V), xs = [.ref b] ∧ H a = some (.dT kvs) ∧ H b = some (.tup (k.map kV)) ∧ valV kvs k = some v ∧ Q v (upd H a (.dT (dropK kvs k))))
theorem mt_pop1 {X : Cx} (hu : X.A.units + 1 < cLine) : MtR X "dict.pop" rPop1 := by
  intro pins s σ H x xs v us Q I rx rxs h
  obtain ⟨a, rfl, h | h⟩ := h
  · obtain ⟨kvs, k, z, rfl, ha, hv, q⟩ := h
    cases rx
    obtain ⟨u1, rfl, r1⟩ := L2.Vals.one rxs
    exact d_pop I ha r1 hv (.inl rfl) fun w' s' I' rv => ⟨z, _, I', rv, q⟩
  · obtain ⟨kvs, k, b, z, rfl, ha, hb, hv, q⟩ := h
    cases rx
    obtain ⟨u1, rfl, r1⟩ := L2.Vals.one rxs
    cases r1
    obtain ⟨zl, hd, xs', rel, dd⟩ := dt_of I.hok ha
    have hz : xs'.length ≤ sizeLine := by rw [← Paired.length rel]; exact zl
    obtain ⟨p, hp, rp⟩ : ∃ p, atKey xs' k = some p ∧ RelV z p.2 := by
      have r := rel.val k
      rw [hv] at r
      cases e : atKey xs' k with
      | none => rw [e] at r; exact (show False from r).elim
      | some p => rw [e] at r; exact ⟨p, rfl, r⟩
    refine call_meetsIn PySem.F.slot_dict_pop dd.typeIs PySem.F.entry_dict_pop (PySem.F.args_dict_pop_2 _ _) (PP.meetsPopOne (knd := tupleKind (mixKind X.prog X.w)) (k := k) hd) ⟨xs', p, tupleKind_room_in1 hu, key_of I.hok hb, dd, hz, hp, fun h' tk dd' hs => ?_⟩
    obtain ⟨o, es, ep, h1, h2, h3, h4, _, h5⟩ := dd'
    have J : Inv X pins σ (upd H a (.dT (dropK kvs k))) { s with heap := h', toks := tk } :=
      d_write I (by rw [ha]; exact True.intro) hs ⟨o, h1⟩ ⟨Nat.le_trans (dropK_le kvs k) zl, hd, _, (DX.KT_drop k rel).keeps (fun c ys ec => (by rw [upd_ne (ne_of ec ha (fun z => nomatch z))]; exact ec)), o, es, ep, h1, h2, h3, h4, h5⟩
    exact ⟨z, _, J, rp, q⟩
section
variable {X : Cx} {g : Gx} {pf p p' pk : Bool} {Wx : WX} {fk : F} {kx o : Expr} {pos apos cpos : Pos}
theorem drop_ok {w : Wd} {H : Hp} {b : Addr} {c c' : Ct} {q : PV} {u : V} (k : CtOk g w H b c) (hd : dropC c q = some c') (lk : Lk g w H u q) (fzb : ∀ ho : HO, Fz w H w (upd H b ho)) {Q : VK} (hq : ∀ v ho, CtOk g w (upd H b ho) b c' → Q v (upd H b ho)) : rPop1 (.ref b) [u] H Q := by
  unfold dropC at hd
  split at hd
  · split at hd
    · rename_i kq hkq
      split at hd
      · rename_i hsome
        cases hd
        cases k with
        | k e1 e2 r =>
          rename_i kvs
          subst e2
          rw [toKey_kv hkq lk]
          rcases look_val (q := kq) r with ⟨h1, _⟩ | ⟨p, v, h1, h2, _⟩
          · rw [h1] at hsome; cases hsome
          · obtain ⟨q1, q2⟩ := dropK_ok (q := kq) r
            exact ⟨b, rfl, .inl ⟨kvs, kq, v, rfl, e1, h2, hq v _ (.k upd_same q1 (q2.fz (fzb _)))⟩⟩
      · cases hd
    · cases hd
  · split at hd
    · rename_i kq hkq
      split at hd
      · rename_i hsome
        cases hd
        cases k with
        | t e1 e2 r =>
          rename_i kvs
          subst e2
          obtain ⟨d, us, rfl, hb2, rk⟩ := lk.tupK (slk_key hkq)
          rw [toKeys_kv hkq rk] at hb2
          rcases look_val (q := kq) r with ⟨h1, _⟩ | ⟨p, v, h1, h2, _⟩
          · rw [h1] at hsome; cases hsome
          · obtain ⟨q1, q2⟩ := dropK_ok (q := kq) r
            exact ⟨b, rfl, .inr ⟨kvs, kq, d, v, rfl, e1, hb2, h2, hq v _ (.t upd_same q1 (q2.fz (fzb _)))⟩⟩
      · cases hd
    · cases hd
  · cases hd
theorem dropC_dict {c c' : Ct} {q : PV} (h : dropC c q = some c') : (∃ ks vs, c = .k ks vs) ∨ ∃ ks vs, c = .t ks vs := by
  cases c with
  | l xs => simp [dropC] at h
  | k ks vs => exact .inl ⟨_, _, rfl⟩
  | t ks vs => exact .inr ⟨_, _, rfl⟩
theorem tyV_dict {K : PySem.W.Frag} {w : Wd} {H : Hp} {b : Addr} {c : Ct} (k : CtOk g w H b c) (h : isDc (some (0, ⟨0, []⟩, c)) = true) : tyV K "dict" (.ref b) H := by
  cases k with
  | l _ _ => cases h
  | k e1 _ _ => exact .inr (.inr (.inl ⟨rfl, .inl ⟨_, e1⟩⟩))
  | t e1 _ _ => exact .inr (.inr (.inl ⟨rfl, .inr ⟨_, e1⟩⟩))
/-- s.pop(k) -/
theorem s_pop (hu : X.A.units + 1 < cLine) {i : Nat} (ho : PE X o (tVar i)) (h : PE X kx (tE g pf Wx p fk)) (hbase : attributeBase o "pop" X.env (eval o X.env) = eval o X.env) (hline : (apos.endLine == cpos.line) = true)
    (hs : starEach [kx] X.env = (false, eval kx X.env) :: starEach [] X.env) : PS X (.Expr (.Call (.Attribute o "pop" apos) [kx] [] cpos) pos) (tS g pf Wx (xPop i fk)) := by
  have hfew : ((backTo cpos (starEach [kx] X.env)).all (fun x => !x.1) && (backToKw cpos (keywordEach [] X.env)).all (fun x => x.1.isSome)
      && decide ([kx].length + ([] : List Keyword).length + (if ([] : List Keyword).isEmpty then 0 else 1) < 30)) = true := by rw [hs]; rfl
  refine (ps_expr (pe_bm PySem.F.plainAttrs_dict PySem.F.slot_dict_pop PySem.F.type_dict_pop (mt_pop1 hu) ho (pa_cons h pa_nil hs) hbase hfew hline hs rfl) rfl).imp fun D σ H ⟨w0, H0, w, env, W, rel, oo⟩ => ?_
  unfold xPop at oo
  split at oo
  case h_2 => exact oo.elim
  rename_i c hc
  split at oo
  case isFalse => exact oo.elim
  rename_i hdc
  obtain ⟨a, ev, h0, ng, k⟩ := rel.sl i _ hc
  refine ⟨.ref a, ev, tyV_dict k hdc, ?_⟩
  refine ⟨w0, H0, w, env, W, rel, oE.st (p := p) oo rel fun y W1 u H1 w1 _ rel1 ext1 s1 rr1 o1 => ?_⟩
  split at o1
  case isTrue => exact o1.elim
  split at o1
  case h_2 => exact o1.elim
  rename_i c' hd
  obtain ⟨a1, ev1, h01, ng1, k1⟩ := rel1.sl i _ hc
  rw [ev] at ev1
  cases ev1
  refine drop_ok k1 hd rr1.lk (fun ho => Fz.put rel1.wk ng1) fun v ho kk => ?_
  obtain ⟨rel2, fz2⟩ := rel1.write (o := ho) hc ev kk
  exact o1 w1 σ _ fz2 rel2
/-- s.f.pop(k) -/
theorem s_fpop (hu : X.A.units + 1 < cLine) {i : Nat} {f : Str} {p3 : Pos} (hpf : pf = false) (hcl : ∀ c, c < g.nc → Cls X.K (g.cc c)) (hna : ∀ c, c < g.nc → NoAttr X.K (g.cc c) f) (ho : PE X o (tVar i)) (hb : attributeBase o f X.env (eval o X.env) = eval o X.env) (hb2 : attributeBase (.Attribute o f p3) "pop" X.env (eval (.Attribute o f p3) X.env) = eval (.Attribute o f p3) X.env) (hpk : pk = true → p = true) (h : PE X kx (tE g pf Wx p fk)) (hline : (apos.endLine == cpos.line) = true)
    (hs : starEach [kx] X.env = (false, eval kx X.env) :: starEach [] X.env) : PS X (.Expr (.Call (.Attribute (.Attribute o f p3) "pop" apos) [kx] [] cpos) pos) (tS g pf Wx (xFpop i f fk pk)) := by
  have hfew : ((backTo cpos (starEach [kx] X.env)).all (fun x => !x.1) && (backToKw cpos (keywordEach [] X.env)).all (fun x => x.1.isSome)
      && decide ([kx].length + ([] : List Keyword).length + (if ([] : List Keyword).isEmpty then 0 else 1) < 30)) = true := by rw [hs]; rfl
  refine (ps_expr (pe_bm PySem.F.plainAttrs_dict PySem.F.slot_dict_pop PySem.F.type_dict_pop (mt_pop1 hu) (pe_fld ho hb) (pa_cons h pa_nil hs) hb2 hfew hline hs rfl) rfl).imp fun D σ H ⟨w0, H0, w, env, W, rel, oo⟩ => ?_
  unfold xFpop at oo
  split at oo
  case isTrue => exact oo.elim
  rename_i hisl
  have hisl : isDc (objF env W i f) = true := by simpa using hisl
  cases hobj : objF env W i f with
  | none => rw [hobj] at hisl; cases hisl
  | some q =>
  obtain ⟨n, ob, c⟩ := q
  rw [hobj] at hisl
  obtain ⟨a, dx, b, l, ev, ha, hob, hl, hcls, hfo, e1, hG, hF, k⟩ := objF_ok rel hobj
  refine ⟨.ref a, ev, a, _, dx, l, .ref b, rfl, hl, hcl _ hcls, hna _ hcls, e1, tyV_dict k (by cases c <;> first | rfl | cases hisl), ?_⟩
  refine ⟨w0, H0, w, env, W, rel, oE.st (p := p) oo rel fun y W1 u H1 w1 _ rel1 ext1 s1 rr1 o1 => ?_⟩
  split at o1
  case isTrue => exact o1.elim
  rename_i hbk
  have hpk2 : pk = true := by cases pk <;> simp at hbk ⊢
  have sm := s1 (hpk hpk2)
  split at o1
  case h_2 => exact o1.elim
  rename_i n2 ob2 c2 hobj2
  split at o1
  case h_2 => exact o1.elim
  rename_i c' hd
  obtain ⟨a2, dx2, b2, l2, ev2, ha2, hob2, hl2, hcls2, hfo2, e2, hG2, hF2, k2⟩ := objF_ok rel1 hobj2
  rw [ev] at ev2
  cases ev2
  have hl3 := sm a _ hl
  rw [hl2] at hl3
  simp only [Option.some.injEq, HO.ins.injEq] at hl3
  obtain ⟨-, rfl, rfl⟩ := hl3
  rw [e1] at e2
  cases e2
  refine drop_ok k2 hd rr1.lk (fun u => ⟨fun d z => ⟨z, upd_ne fun q => hF2 (q ▸ z)⟩, fun _ _ h => h⟩) fun v ho kk => ?_
  obtain ⟨rel2, fz2⟩ := rel1.writeF hpf ha2 hob2 hl2 hfo2 e1 hG2 hF2 k2 kk
  exact o1 w1 σ _ fz2 rel2
/-- x = s.pop() -/
theorem s_popl {i j : Nat} {y : Str} {p2 : Pos} (hij : i ≠ j) (hN : X.N.Nodup) (hj : X.N[j]? = some y) (hy : Loc X.env.scope y) (hf : X.fn y = true ∨ X.env.scope.names.lookup y = some .local) (ho : PE X o (tVar i)) (hbase : attributeBase o "pop" X.env (eval o X.env) = eval o X.env) (hline : (apos.endLine == cpos.line) = true) :
    PS X (.Assign [.Name y p2] (.Call (.Attribute o "pop" apos) [] [] cpos) pos) (tS g pf Wx (xPopl j i)) := by
  refine (ps_set hN hj hy (pe_bm0 PySem.F.plainAttrs_list PySem.F.slot_list_pop PySem.F.type_list_pop mt_pop ho hbase hline) rfl hf).imp fun D σ H ⟨w0, H0, w, env, W, rel, oo⟩ => ?_
  unfold xPopl at oo
  split at oo
  case h_2 => exact oo.elim
  rename_i xs hc
  split at oo
  case h_2 => exact oo.elim
  rename_i pv hl
  obtain ⟨a, ev, h0, ng, k⟩ := rel.sl i _ hc
  cases k with
  | l e1 r =>
  rename_i vs
  have hx : xs[xs.length - 1]? = some pv := by rw [← List.getLast?_eq_getElem?]; exact hl
  obtain ⟨v, hv, rv⟩ := r.get hx
  rw [← r.length] at hv
  refine ⟨.ref a, ev, .inl ⟨rfl, vs, SqL.of e1⟩, a, vs, v, rfl, rfl, e1, hv, ?_⟩
  have fz := Fz.put (o := .lst vs.dropLast) rel.wk ng
  have rd : Rps g w H vs.dropLast xs.dropLast := by rw [List.dropLast_eq_take, List.dropLast_eq_take, r.length]; exact r.take _
  obtain ⟨rel2, fz2⟩ := rel.write (o := .lst vs.dropLast) hc ev (.l upd_same (rd.fz fz))
  exact oo w _ _ fz2 (rel2.set j (rv.fz fz2))
end
end D

/-! D15: the same text? -/
namespace D
open PySem PySem.Spec PyProof.Rows L2

/-- a module's names -/
structure Md where
  fns : List (Str × Nat × Option Nat)
  con : List (Str × PV)
  tup : List (Str × List PV)
  exc : List Str
  cls : List Str
  flds : List Str

def eqS (x y : Str) : Bool := decide (x = y)
def eqP : PV → PV → Bool
  | .int i, .int j => decide (i = j)
  | .str x, .str y => decide (x = y)
  | _, _ => false
def eqPs : List PV → List PV → Bool
  | [], [] => true
  | x :: xs, y :: ys => eqP x y && eqPs xs ys
  | _, _ => false
theorem eqS_ok {x y : Str} (h : eqS x y = true) : x = y := of_decide_eq_true h
theorem eqP_ok {p q : PV} (h : eqP p q = true) : p = q := by
  unfold eqP at h
  split at h
  · rw [of_decide_eq_true h]
  · rw [of_decide_eq_true h]
  · cases h
theorem eqPs_ok : ∀ {p q : List PV}, eqPs p q = true → p = q
  | [], [], _ => rfl
  | [], _ :: _, h => by cases h
  | _ :: _, [], h => by cases h
  | x :: xs, y :: ys, h => by
    simp only [eqPs] at h
    rw [eqP_ok (and1 h), eqPs_ok (and2 h)]
/-- a name that is read -/
def rdN (N : List Str) (sc : Scope) (i : Nat) (x : Str) : Bool := (match N[i]? with | some y => eqS y x | none => false) && ((match sc.names.lookup x with | some .local => true | some .cell => true | some .free => true | _ => false) && (!eqS x "__debug__" && !eqS x "__classdict__"))
def wrN (N : List Str) (sc : Scope) (i : Nat) (x : Str) : Bool := (match N[i]? with | some y => eqS y x | none => false) && (match sc.names.lookup x with | some .local => true | some .cell => true | _ => false)
def glN (sc : Scope) (x : Str) : Bool := (match sc.names.lookup x with | some .globalImplicit => true | _ => false) && !eqS x "__debug__"
def isBO : BO → Operator → Bool
  | .add, .Add => true | .sub, .Sub => true | .mul, .Mult => true | .mod, .Mod => true | .fdiv, .FloorDiv => true | .pow, .Pow => true | _, _ => false
theorem isBO_ok {o : BO} {p : Operator} (h : isBO o p = true) : p = boO o := by cases o <;> cases p <;> first | rfl | cases h
def isCO : CO → CmpOp → Bool
  | .eq, .Eq => true | .ne, .NotEq => true | .lt, .Lt => true | .le, .LtE => true | .gt, .Gt => true | .ge, .GtE => true | .isin, .In => true | .notin, .NotIn => true | _, _ => false
theorem isCO_ok {o : CO} {p : CmpOp} (h : isCO o p = true) : p = coO o := by cases o <;> cases p <;> first | rfl | cases h
def noStar : Expr → Bool
  | .Starred _ _ => false
  | _ => true
theorem noStar_ok {e : Expr} {es : List Expr} {env : Env} (h : noStar e = true) : starEach (e :: es) env = (false, eval e env) :: starEach es env := by
  cases e <;> first | rfl | cases h
def noSet : Expr → Bool
  | .Set _ _ _ => false
  | _ => true
theorem noSet_ok {e : Expr} {env : Env} (h : noSet e = true) (x : Value) : foldedSetIterable e env x = pure x := by
  cases e <;> first | rfl | cases h
theorem noSet_mark {e : Expr} {op : CmpOp} (h : noSet e = true) : behindInMarks op e = false := by
  cases e <;> first | rfl | cases h
def noSlice : Expr → Bool
  | .Slice _ _ _ _ => false
  | _ => true
theorem noSlice_ok {e : Expr} (h : noSlice e = true) : PlainIx e := by
  intro o i
  cases e <;> first | rfl | cases h
/-- what a walk is written over -/
def itArgs : IK → Expr → Expr → Option (List Expr)
  | .one, _, e => some [e]
  | .rng, _, .Call (.Name x _) [a] [] _ => if eqS x "range" then some [a] else none
  | .rng, _, .Call (.Name x _) [a, b] [] _ => if eqS x "range" then some [a, b] else none
  | .enum, .Tuple _ _ _, .Call (.Name x _) [a] [] _ => if eqS x "enumerate" then some [a] else none
  | .zip, .Tuple _ _ _, .Call (.Name x _) [a, b] [] _ => if eqS x "zip" then some [a, b] else none
  | _, _, _ => none
theorem itArgs_ok {k : IK} {tg e : Expr} {es : List Expr} (h : itArgs k tg e = some es) : ItE k tg es e := by
  unfold itArgs at h
  split at h
  · cases h; exact .one
  · split at h
    · rename_i hx
      cases eqS_ok hx
      cases h; exact .rng1
    · cases h
  · split at h
    · rename_i hx
      cases eqS_ok hx
      cases h; exact .rng2
    · cases h
  · split at h
    · rename_i hx
      cases eqS_ok hx
      cases h; exact .enum
    · cases h
  · split at h
    · rename_i hx
      cases eqS_ok hx
      cases h; exact .zip
    · cases h
  · cases h
def ikOk (sc : Scope) (k : IK) : Bool := match ikN k with
  | some x => glN sc x
  | none => true
mutual
def sameG (N : List Str) (sc : Scope) : CT → Expr → Bool
  | .nm i, .Name x _ => wrN N sc i x
  | .tp ts, .Tuple es _ _ => sameGs N sc ts es
  | _, _ => false
def sameGs (N : List Str) (sc : Scope) : List CT → List Expr → Bool
  | [], [] => true
  | t :: ts, e :: es => sameG N sc t e && sameGs N sc ts es
  | _, _ => false
end
/-- a comprehension's scope -/
def blkOk (N : List Str) (sc scope : Scope) (own : List (Str × Nat)) : Bool :=
  (match scope.kind with | .function => true | _ => false) &&
  (scope.names.all (fun y => match scope.names.lookup y.1 with | some k => decide (k = y.2) | none => false) &&
  (own.all (fun p => match N[p.2]? with | some y => eqS y p.1 | none => false) &&
  (scope.names.all (fun y => match y.2 with | .free => (match sc.names.lookup y.1 with | some .cell => true | some .free => true | _ => false) | _ => true) &&
  scope.names.all (fun y => match y.2 with | .local => own.any (fun p => eqS p.1 y.1) || !(N.any fun z => eqS z y.1) | .cell => own.any (fun p => eqS p.1 y.1) || !(N.any fun z => eqS z y.1) | _ => true))))
def subL : List Nat → List (Str × Nat) → Bool := fun is own => is.all fun i => (own.map (·.2)).any fun j => decide (j = i)

def few : List Expr → Bool
  | [] => true
  | [_] => true
  | _ => false
def some1 : List Expr → Bool
  | [] => false
  | _ => true
mutual
def sameE (M : Md) (N : List Str) : CE → Scope → Expr → Bool
  | .non, _, e => (match e with | .Constant .none _ _ => true | _ => false)
  | .bl b, _, e => (match e with | .Constant (.bool c) _ _ => (match b, c with | true, true => true | false, false => true | _, _ => false) | _ => false)
  | .int i, _, e => (match e with | .Constant (.int j) _ _ => decide (i = j) | _ => false)
  | .str x, _, e => (match e with | .Constant (.str y) _ _ => eqS x y && okS x | _ => false)
  | .var i, sc, e => (match e with | .Name x _ => rdN N sc i x | _ => false)
  | .glb x v, sc, e => (match e with | .Name y _ => eqS x y && (glN sc x && (match M.con.lookup x with | some w => eqP w v | none => false)) | _ => false)
  | .tup es, sc, e => (match e with | .Tuple fs _ _ => sameEs M N es sc fs | _ => false)
  | .lst es, sc, e => (match e with | .List fs _ => sameEs M N es sc fs | _ => false)
  | .op o a b, sc, e => (match e with | .BinOp c p d _ => isBO o p && (sameE M N a sc c && sameE M N b sc d) | _ => false)
  | .cmp o a b, sc, e => (match e with | .Compare c [p] [d] _ => isCO o p && (noSet d && (sameE M N a sc c && sameE M N b sc d)) | _ => false)
  | .cmp2 o o' a b c, sc, e => (match e with | .Compare d [p, p'] [f, h] _ => isCO o p && (isCO o' p' && (noSet h && (sameE M N a sc d && (sameE M N b sc f && sameE M N c sc h)))) | _ => false)
  | .isN a, sc, e => (match e with | .Compare c [.Is] [.Constant .none _ _] _ => sameE M N a sc c | _ => false)
  | .notN a, sc, e => (match e with | .Compare c [.IsNot] [.Constant .none _ _] _ => sameE M N a sc c | _ => false)
  | .isB b a, sc, e => (match e with | .Compare c [.Is] [.Constant (.bool d) _ _] _ => (match b, d with | true, true => true | false, false => true | _, _ => false) && sameE M N a sc c | _ => false)
  | .notB b a, sc, e => (match e with | .Compare c [.IsNot] [.Constant (.bool d) _ _] _ => (match b, d with | true, true => true | false, false => true | _, _ => false) && sameE M N a sc c | _ => false)
  | .and es, sc, e => (match e with | .BoolOp .And fs _ => some1 fs && sameEs M N es sc fs | _ => false)
  | .or es, sc, e => (match e with | .BoolOp .Or fs _ => some1 fs && sameEs M N es sc fs | _ => false)
  | .not a, sc, e => (match e with | .UnaryOp .Not c _ => sameE M N a sc c | _ => false)
  | .neg a, sc, e => (match e with | .UnaryOp .USub c _ => sameE M N a sc c | _ => false)
  | .ite c a b, sc, e => (match e with | .IfExp d f h _ => sameE M N c sc d && (sameE M N a sc f && sameE M N b sc h) | _ => false)
  | .idx a i, sc, e => (match e with | .Subscript c d _ => noSlice d && (sameE M N a sc c && sameE M N i sc d) | _ => false)
  | .slL a i, sc, e => (match e with | .Subscript c (.Slice (some d) none none _) _ => sameE M N a sc c && sameE M N i sc d | _ => false)
  | .slH a i, sc, e => (match e with | .Subscript c (.Slice none (some d) none _) _ => sameE M N a sc c && sameE M N i sc d | _ => false)
  | .slB a i j, sc, e => (match e with | .Subscript c (.Slice (some d) (some f) none _) _ => sameE M N a sc c && (sameE M N i sc d && sameE M N j sc f) | _ => false)
  | .call f es, sc, e => (match e with | .Call (.Name x _) (g :: gs) [] _ => glN sc x && ((match M.fns[f]? with | some (y, n, none) => eqS y x && decide (gs.length + 1 = n) | _ => false) && sameEs M N es sc (g :: gs)) | _ => false)
  | .blt f es, sc, e => (match f with
    | .sortSet => (match e with | .Call (.Name x _) [.Call (.Name y _) [a] [] _] [] _ => eqS x "sorted" && (eqS y "set" && (glN sc x && (glN sc y && sameEs M N es sc [a]))) | _ => false)
    | .lenset => (match e with | .Call (.Name x _) [.Call (.Name y _) [a] [] _] [] _ => eqS x "len" && (eqS y "set" && (glN sc x && (glN sc y && sameEs M N es sc [a]))) | _ => false)
    | _ => (match e with | .Call (.Name x _) (g :: gs) [] _ => eqS x (bfN f) && (glN sc x && sameEs M N es sc (g :: gs)) | _ => false))
  | .isi a ty, sc, e => (match e with | .Call (.Name x _) [c, .Name y _] [] _ => eqS x "isinstance" && (eqS y (tyS ty) && ((match ty with | .exc _ => false | _ => true) && (glN sc x && (glN sc y && (noStar c && sameE M N a sc c))))) | _ => false)
  | .inT ng a x vs, sc, e => (match e with | .Compare c [p] [.Name y _] _ => eqS x y && ((match ng, p with | true, .NotIn => true | false, .In => true | _, _ => false) && (glN sc x && ((match M.tup.lookup x with | some ws => eqPs ws vs | none => false) && sameE M N a sc c))) | _ => false)
  | .comp elt tg k es c own, sc, e => (match e with
    | .ListComp e' [⟨tg', iter, ifs, z⟩] scope _ => decide (z = 0) && (sameG N scope tg tg' && (noSet iter && (ikOk sc k && ((match itArgs k tg' iter with | some fs => sameEs M N es sc fs | none => false) &&
      (blkOk N sc scope own && (subL (ctS tg) own && (sameE M N elt scope e' && (few ifs && sameEs M N c scope ifs))))))))
    | _ => false)
  | .dct _, _, e => (match e with | .Dict [] [] _ => true | _ => false)
  | .meth m a es, sc, e => (match e with | .Call (.Attribute o x ap) (g :: gs) [] cp => eqS x (mbN m) && (noCall0 o && ((ap.endLine == cp.line) && (decide (gs.length < 20) && (sameE M N a sc o && sameEs M N es sc (g :: gs))))) | _ => false)
  | .rev a, sc, e => (match e with | .Subscript b (.Slice none none (some (.UnaryOp .USub (.Constant (.int 1) _ _) _)) _) _ => sameE M N a sc b | _ => false)
  | .fld a f, sc, e => (match e with | .Attribute b x _ => eqS x f && (M.flds.any (eqS f) && (noCall0 b && sameE M N a sc b)) | _ => false)
  | .fldF a f, sc, e => (match e with | .Attribute b x _ => eqS x f && (M.flds.any (eqS f) && (noCall0 b && sameE M N a sc b)) | _ => false)
  | .mcall f c a m es, sc, e => (match e with
    | .Call (.Attribute o x ap) gs [] cp => eqS x m && (noCall0 o && ((ap.endLine == cp.line) && (decide (gs.length < 20) && ((match M.fns[f]? with | some (y, n, some c') => eqS y m && (!eqS m "__init__" && (decide (c' = c) && decide (gs.length + 1 = n))) | _ => false) && (sameE M N a sc o && sameEs M N es sc gs)))))
    | _ => false)
  | .mk c x f es, sc, e => (match e with
    | .Call (.Name y _) (g :: gs) [] _ => eqS y x && (glN sc y && ((match M.fns[f]? with | some (z, n, some c') => eqS z "__init__" && (decide (c' = c) && decide (gs.length + 2 = n)) | _ => false) && ((match M.cls[c]? with | some w => eqS w y | none => false) && sameEs M N es sc (g :: gs))))
    | _ => false)
  | .isx a x c, sc, e => (match e with | .Call (.Name y _) [b, .Name z _] [] _ => eqS y "isinstance" && (eqS z x && (glN sc y && (glN sc z && (noStar b && ((match M.exc[c]? with | some w => eqS w z | none => decide (c = 99) && eqS z "ValueError") && sameE M N a sc b))))) | _ => false)
def sameEs (M : Md) (N : List Str) : List CE → Scope → List Expr → Bool
  | [], _, [] => true
  | t :: ts, sc, e :: es => noStar e && (sameE M N t sc e && sameEs M N ts sc es)
  | _, _, _ => false
end
end D

/-! D16: a term that is the same text is read as the model reads it. -/
namespace D
open PySem PySem.Spec PyProof.Rows L2

/-- the scope that runs is the written one -/
structure ScOk (X : Cx) (sc : Scope) : Prop where
  loc : ∀ x, sc.names.lookup x = some .local → X.env.scope.names.lookup x = some .local
  cel : ∀ x, sc.names.lookup x = some .cell → X.env.scope.names.lookup x = some .cell ∧ X.fn x = true
  fre : ∀ x, sc.names.lookup x = some .free → X.env.scope.names.lookup x = some .cell ∨ X.env.scope.names.lookup x = some .free
  glo : ∀ x, sc.names.lookup x = some .globalImplicit → X.env.scope.names.lookup x = some .globalImplicit
  kin : X.env.scope.kind = .function
/-- the module as its defs see it -/
structure MdOk (P : Program) (w : World) (K : PySem.W.Frag) (mg : Str → Option Value) (base : Heap) (g : Gx) (M : Md) (T : Tb) (k : Nat) : Prop where
  hK : K = g.K
  rng : mg "range" = none
  enum : mg "enumerate" = none
  zip : mg "zip" = none
  fre : ∀ f : BF, mg (bfN f) = none
  set : mg "set" = none
  isi : mg "isinstance" = none
  ty : ∀ t : TY, (∀ c, t ≠ .exc c) → mg (tyS t) = none
  con : ∀ x v, M.con.lookup x = some v → ∃ u y, mg x = some u ∧ RelV y u ∧ ∀ w H, Rp g w H y v
  tup : ∀ x vs, M.tup.lookup x = some vs → ∃ a us, mg x = some (.ref a) ∧ WrT g.K a us ∧ ∀ w H, Rps g w H us vs
  exo : ExOk K mg g M.exc
  cln : g.nc = M.cls.length
  clo : ∀ c, c < g.nc → Cls K (g.cc c)
  cla : ∀ c, c < g.nc → ∀ f, f ∈ M.flds → NoAttr K (g.cc c) f
  met : ∀ (f : Nat) (m : Str) (n c : Nat), M.fns[f]? = some (m, n, some c) → c < g.nc ∧ ∃ a fd ps, ps.length = n ∧ Binds K fd ps [] ∧ FnOk P w K mg base (L2.CX P w) k a fd ps (spF g (T.fn f) (T.pu f) ps.length) ∧ (m ≠ ("__init__" : Str) → Meth K (g.cc c) m a) ∧ (m = ("__init__" : Str) → Mk K (g.cc c) a ∧ ∀ x, M.cls[c]? = some x → mg x = some (.ref (g.cc c)))
  fns : ∀ f x n, M.fns[f]? = some (x, n, none) → ∃ a fd ps, ps.length = n ∧ mg x = some (.ref a) ∧ PySem.W.keepIn K (.ref a) = true ∧ Binds K fd ps [] ∧ FnOk P w K mg base (L2.CX P w) k a fd ps (spF g (T.fn f) (T.pu f) ps.length)
theorem MdOk.it {X : Cx} {g : Gx} {M : Md} {T : Tb} {k : Nat} (m : MdOk X.prog X.w X.K X.mg X.base g M T k) : ItF X := ⟨m.rng, m.enum, m.zip⟩
structure Gd (X : Cx) (g : Gx) (M : Md) (T : Tb) (N : List Str) (sc : Scope) (Wx : WX) (k : Nat) : Prop where
  md : MdOk X.prog X.w X.K X.mg X.base g M T k
  hN : X.N = N
  nd : N.Nodup
  calm : X.calm = true
  sc : ScOk X sc
  room : Room (k + 1) X.A
  tk : Takes X Wx

section
variable {X : Cx} {g : Gx} {M : Md} {T : Tb} {N : List Str} {sc : Scope} {Wx : WX} {k : Nat}
theorem rdN_ok (G : Gd X g M T N sc Wx k) {i : Nat} {x : Str} (h : rdN N sc i x = true) : X.N[i]? = some x ∧ Vis X.env.scope x ∧ (x == ("__debug__" : Str)) = false ∧ (x == ("__classdict__" : Str)) = false := by
  unfold rdN at h
  have nb : ∀ {y z : Str}, (!eqS y z) = true → (y == z) = false := fun {y z} h => by
    unfold eqS at h
    have h2 : ¬ y = z := by simpa using h
    exact beq_eq_false_iff_ne.mpr h2
  refine ⟨?_, ?_, nb (and1 (and2 (and2 h))), nb (and2 (and2 (and2 h)))⟩
  · have h1 := and1 h
    rw [G.hN]
    split at h1
    · rename_i y e
      rw [e, eqS_ok h1]
    · cases h1
  · have h1 := and1 (and2 h)
    split at h1
    · rename_i e; exact .inl (G.sc.loc _ e)
    · rename_i e; exact .inr (.inl (G.sc.cel _ e).1)
    · rename_i e
      rcases G.sc.fre _ e with q | q
      · exact .inr (.inl q)
      · exact .inr (.inr q)
    · cases h1
theorem wrN_ok (G : Gd X g M T N sc Wx k) {i : Nat} {x : Str} (h : wrN N sc i x = true) : X.N[i]? = some x ∧ Loc X.env.scope x ∧ (X.fn x = true ∨ X.env.scope.names.lookup x = some .local) := by
  unfold wrN at h
  have e1 : X.N[i]? = some x := by
    have h1 := and1 h
    rw [G.hN]
    split at h1
    · rename_i y e
      rw [e, eqS_ok h1]
    · cases h1
  have h1 := and2 h
  split at h1
  · rename_i e; exact ⟨e1, .inl (G.sc.loc _ e), .inr (G.sc.loc _ e)⟩
  · rename_i e; exact ⟨e1, .inr (G.sc.cel _ e).1, .inl (G.sc.cel _ e).2⟩
  · cases h1
theorem glN_ok (G : Gd X g M T N sc Wx k) {x : Str} (h : glN sc x = true) : Gl X x ∧ (x == ("__debug__" : Str)) = false := by
  unfold glN at h
  refine ⟨?_, ?_⟩
  · have h1 := and1 h
    split at h1
    · rename_i e; exact G.sc.glo _ e
    · cases h1
  · have h2 := and2 h
    unfold eqS at h2
    have h2 : ¬ x = ("__debug__" : Str) := by simpa using h2
    exact beq_eq_false_iff_ne.mpr h2
theorem ikOk_ok (G : Gd X g M T N sc Wx k) {kk : IK} (h : ikOk sc kk = true) : ∀ x, ikN kk = some x → Gl X x := fun x e => by
  unfold ikOk at h
  rw [e] at h
  exact (glN_ok G h).1
mutual
theorem sameG_ok (G : Gd X g M T N sc Wx k) : ∀ {t : CT} {e : Expr}, sameG N sc t e = true → TgE X t e
  | .nm i, e, h => by
    cases e
    case Name x p =>
      simp only [sameG] at h
      obtain ⟨h1, h2, h3⟩ := wrN_ok G h
      exact .nm h1 h2 h3
    all_goals (simp [sameG] at h)
  | .tp ts, e, h => by
    cases e
    case Tuple es kk p =>
      simp only [sameG] at h
      exact .tp (sameGs_ok G h)
    all_goals (simp [sameG] at h)
theorem sameGs_ok (G : Gd X g M T N sc Wx k) : ∀ {ts : List CT} {es : List Expr}, sameGs N sc ts es = true → TgEs X ts es
  | [], [], _ => .nil
  | [], _ :: _, h => by simp [sameGs] at h
  | _ :: _, [], h => by simp [sameGs] at h
  | t :: ts, e :: es, h => by
    simp only [sameGs] at h
    exact .cons (sameG_ok G (and1 h)) (sameGs_ok G (and2 h))
end
theorem free_relS {s0 : Scope} : ∀ {names : List (Str × NameKind)} {x : Str}, names.lookup x = some .free →
    (names.map fun (n, k) => if (k == NameKind.free && s0.kind == .function && s0.names.lookup n == some .cell) then (n, NameKind.cell) else (n, k)).lookup x = some .cell ∨
    (names.map fun (n, k) => if (k == NameKind.free && s0.kind == .function && s0.names.lookup n == some .cell) then (n, NameKind.cell) else (n, k)).lookup x = some .free
  | [], _, h => by simp at h
  | (n, k0) :: r, x, h => by
    simp only [List.map_cons]
    cases hx : x == n with
    | true =>
      simp only [List.lookup_cons, hx] at h
      cases h
      split
      · exact .inl (by simp only [List.lookup_cons, hx])
      · exact .inr (by simp only [List.lookup_cons, hx])
    | false =>
      simp only [List.lookup_cons, hx] at h
      rcases free_relS (s0 := s0) h with q | q
      · exact .inl (by split <;> simp only [List.lookup_cons, hx] <;> exact q)
      · exact .inr (by split <;> simp only [List.lookup_cons, hx] <;> exact q)
theorem blkOk_ok (G : Gd X g M T N sc Wx k) {scope : Scope} {own : List (Str × Nat)} (h : blkOk N sc scope own = true) : BlkOk X.N X.env.scope scope own := by
  unfold blkOk at h
  refine ⟨?_, fun y hy => ?_, fun p hp => ?_, fun y hy e => ?_, fun y hy e => ?_⟩
  · have h1 := and1 h
    split at h1
    · rename_i e; exact e
    · cases h1
  · have h1 := List.all_eq_true.mp (and1 (and2 h)) y hy
    split at h1
    · rename_i kk e; rw [e, of_decide_eq_true h1]
    · cases h1
  · have h1 := List.all_eq_true.mp (and1 (and2 (and2 h))) p hp
    rw [G.hN]
    split at h1
    · rename_i z e; rw [e, eqS_ok h1]
    · cases h1
  · have h1 := List.all_eq_true.mp (and1 (and2 (and2 (and2 h)))) y hy
    rw [e] at h1
    simp only at h1
    split at h1
    · rename_i e2; exact .inl (G.sc.cel _ e2).1
    · rename_i e2; exact G.sc.fre _ e2
    · cases h1
  · have h1 := List.all_eq_true.mp (and2 (and2 (and2 (and2 h)))) y hy
    have key : (own.any (fun p => eqS p.1 y.1) || !(N.any fun z => eqS z y.1)) = true := by
      rcases e with e | e <;> rw [e] at h1 <;> exact h1
    rcases Bool.or_eq_true_iff.mp key with q | q
    · obtain ⟨p, h2, h3⟩ := List.any_eq_true.mp q
      exact .inl (List.mem_map.mpr ⟨p, h2, eqS_ok h3⟩)
    · refine .inr fun hm => ?_
      rw [G.hN] at hm
      have : (N.any fun z => eqS z y.1) = true := List.any_eq_true.mpr ⟨y.1, hm, decide_eq_true rfl⟩
      rw [this] at q
      cases q
/-- inside a comprehension -/
theorem Gd.blk (G : Gd X g M T N sc Wx k) {scope : Scope} {own : List (Str × Nat)} (h : blkOk N sc scope own = true) (s : Shared) (H : Hp) (C : Addr) (cl : List (Str × Addr)) (fp : List Addr) : Gd (X.blk s H scope (compEnvC scope cl C X.env) fp) g M T N scope W0 k where
  md := G.md
  hN := G.hN
  nd := G.nd
  calm := G.calm
  sc := ⟨fun x e => lookup_relS_keep (by decide) e, fun x e => ⟨lookup_relS_keep (by decide) e, by show (scope.names.lookup x == some .cell) = true; rw [e]; rfl⟩, fun x e => free_relS e, fun x e => lookup_relS_keep (by decide) e, (blkOk_ok G h).kind⟩
  room := G.room
  tk := takes0
theorem pt_ifE {c a b : Expr} {pos : Pos} {tc ta tb : TT} (hc : PT X c tc) (ha : PT X a ta) (hb : PT X b tb) : PT X (.IfExp c a b pos) (fun σ H Q => tc σ H fun d H1 => if d = true then ta σ H1 Q else tb σ H1 Q) := by
  refine ⟨fun pins s σ H Q I h => ?_⟩
  refine PyProof.Rows.isTrue_IfExp (thn (hc.run pins s σ H _ I h) fun d s1 ⟨H1, I1, q⟩ => ?_)
  cases d with
  | true => exact ha.run pins s1 σ H1 _ I1 q
  | false => exact hb.run pins s1 σ H1 _ I1 q
theorem ift_imp {pf pc pa pb : Bool} {fc fa fb : F} : ∀ σ H Q, tB (tE g pf Wx (pc && (pa && pb)) (evIf fc fa fb)) σ H Q → tB (tE g pf Wx pc fc) σ H fun d H1 => if d = true then tB (tE g pf Wx pa fa) σ H1 Q else tB (tE g pf Wx pb fb) σ H1 Q := fun σ H Q ⟨w0, H0, w, env, W, rel, o⟩ => by
  refine ⟨w0, H0, w, env, W, rel, oE.bind o and1 fun x W1 v H1 w1 _ rel1 ext1 s1 rr1 _ o1 => ?_⟩
  split at o1
  · exact ⟨true, rr_bl rr1, iteT ⟨w0, H0, w1, env, W1, rel1, o1.pmono fun z => and1 (and2 z)⟩⟩
  · exact ⟨false, rr_bl rr1, iteF ⟨w0, H0, w1, env, W1, rel1, o1.pmono fun z => and2 (and2 z)⟩⟩
  · exact o1.elim
end
end D

/-! D17: the same text, term by term. -/
namespace D
open PySem PySem.Spec PyProof.Rows L2

section
variable {g : Gx} {M : Md} {T : Tb} {N : List Str} {k : Nat} {pf : Bool}
/-- what is read of a term, as a value and as a test -/
abbrev Rd (X : Cx) (g : Gx) (T : Tb) (pf : Bool) (Wx : WX) (t : CE) (e : Expr) : Prop :=
  PE X e (tE g pf Wx (pureE T.pu t) (ev T t)) ∧ PT X e (tB (tE g pf Wx (pureE T.pu t) (ev T t)))
theorem units65 {X : Cx} (r : Room k X.A) : X.A.units + 65 < cLine := by have := r.un; omega
theorem units1 {X : Cx} (r : Room k X.A) : X.A.units + 1 < cLine := by have := r.un; omega
theorem glb_ok {X : Cx} {sc : Scope} {Wx : WX} (G : Gd X g M T N sc Wx k) {x : Str} {w v : PV} {p : Pos} (hg : glN sc x = true) (hl : M.con.lookup x = some w) (e : eqP w v = true) : PE X (.Name x p) (tE g pf Wx true (evC v)) := by
  obtain ⟨u, y, h1, h2, h3⟩ := G.md.con x w hl
  rw [eqP_ok e] at h3
  obtain ⟨h4, h5⟩ := glN_ok G hg
  exact s_const (pe_glob h4 h1 h2 h5) h3
theorem PEs.len {X : Cx} {Wx : WX} {es : List Expr} {fs : List F} {p : Bool} (h : PEs X g pf Wx es fs p) : es.length = fs.length := by
  induction h with
  | nil => rfl
  | cons _ _ _ _ ih => exact congrArg Nat.succ ih
theorem val_ok {X : Cx} {e : Expr} {t : TE} (h : PE X e t) (he : ∀ whole, isTrue e X.env whole = (do let v ← whole; standAt e.pos; holding [v] (truthy v))) : PE X e t ∧ PT X e (tB t) := ⟨h, pt_val h he⟩
theorem calls_ok {X : Cx} {Wx : WX} {at' : Addr} {fd : FuncData} {ps : List Str} {x : Str} {fn : Fn} {pu p : Bool} {es : List Expr} {fs : List F} {p2 pos : Pos} {e : Expr}
    (F : FnOk X.prog X.w X.K X.mg X.base (L2.CX X.prog X.w) k at' fd ps (spF g fn pu ps.length)) (hr : Room k X.A) (hg : Gl X x) (hm : X.mg x = some (.ref at')) (hk : PySem.W.keepIn X.K (.ref at') = true) (hb : Binds X.K fd ps []) (tk : Takes X Wx)
    (hl : es.length + 1 = ps.length) (hpu : pf = true → pu = true) (hdb : (x == ("__debug__" : Str)) = false) (h : PEs X g pf Wx (e :: es) fs p) :
    PE X (.Call (.Name x p2) (e :: es) [] pos) (tE g pf Wx (pu && p) (evCall fn fs)) := by
  cases h with
  | cons h h' hs t => exact s_call F hr hg hm hk hb tk (by rw [← t.len]; exact hl) hpu hdb h h' hs t
theorem blts_ok {X : Cx} {Wx : WX} {p : Bool} {x : BF} {es : List Expr} {fs : List F} {p2 pos : Pos} {e : Expr} (hK : X.K = g.K) (hu : X.A.units + 65 < cLine) (hc : X.calm = true) (hx : x ≠ .lenset) (hx2 : x ≠ .sortSet) (hg : Gl X (bfN x)) (hm : X.mg (bfN x) = none) (h : PEs X g pf Wx (e :: es) fs p) :
    PE X (.Call (.Name (bfN x) p2) (e :: es) [] pos) (tE g pf Wx p (evBlt (bltV x) fs p)) := by
  cases h with
  | cons h h' hs t => exact s_blt hK hu hc hx hx2 hg hm h h' hs t
theorem lens_ok {X : Cx} {Wx : WX} {p : Bool} {fs : List F} {p1 p2 q pos : Pos} {e : Expr} (hc : X.calm = true) (hg : Gl X "len") (hm : X.mg "len" = none) (hg2 : Gl X "set") (hm2 : X.mg "set" = none) (h : PEs X g pf Wx [e] fs p) :
    PE X (.Call (.Name "len" p1) [.Call (.Name "set" p2) [e] [] q] [] pos) (tE g pf Wx p (evBlt (bltV .lenset) fs p)) := by
  cases h with
  | cons h h' hs t => cases t; exact s_lenset hc hg hm hg2 hm2 h h' hs
theorem srts_ok {X : Cx} {Wx : WX} {p : Bool} {fs : List F} {p1 p2 q pos : Pos} {e : Expr} (hK : X.K = g.K) (hc : X.calm = true) (hg : Gl X "sorted") (hm : X.mg "sorted" = none) (hg2 : Gl X "set") (hm2 : X.mg "set" = none) (h : PEs X g pf Wx [e] fs p) :
    PE X (.Call (.Name "sorted" p1) [.Call (.Name "set" p2) [e] [] q] [] pos) (tE g pf Wx p (evBlt (bltV .sortSet) fs p)) := by
  cases h with
  | cons h h' hs t => cases t; exact s_sortset hK hc hg hm hg2 hm2 h h' hs
theorem ifs_ok {X : Cx} {Wx : WX} {p : Bool} {fs : List F} {ifs : List Expr} (h : PEs X g pf Wx ifs fs p) (hl : few ifs = true) : PTs X ifs (tB (tE g pf Wx p (evAnd fs))) := by
  cases h with
  | nil => exact ⟨fun pins s σ H Q I z => pts_nil.run pins s σ H Q I (by
      obtain ⟨w0, H0, w, env, W, rel, o⟩ := z
      obtain ⟨c, e, q⟩ := o (.bl true) H w (Ext.refl w H) (fun _ => Same.refl H) rel (.bl true)
      cases e
      exact q)⟩
  | cons h h' hs t =>
    cases t with
    | nil => exact ⟨fun pins s σ H Q I z => (pts_one h').run pins s σ H Q I (tB_mono (tE_pmono and1) σ H Q z)⟩
    | cons _ _ _ _ => cases hl
mutual
theorem same_ok : ∀ (t : CE) (X : Cx) (sc : Scope) (Wx : WX) (e : Expr), Gd X g M T N sc Wx k → sameE M N t sc e = true → (pf = true → pureE T.pu t = true) → Rd X g T pf Wx t e
  | .non, X, sc, Wx, e, G, h, hp => by
    simp only [sameE] at h
    split at h
    · rename_i j p
      exact val_ok (s_const (g := g) (pf := pf) (Wx := Wx) (v := .non) (pe_non (X := X) (j := j) (pos := p)) fun w H => .non) fun _ => rfl
    · cases h
  | .bl b, X, sc, Wx, e, G, h, hp => by
    simp only [sameE] at h
    split at h
    · rename_i c j p
      have : b = c := by cases b <;> cases c <;> first | rfl | cases h
      subst this
      exact val_ok (s_const (g := g) (pf := pf) (Wx := Wx) (v := .bl b) (pe_bl (X := X) (b := b) (j := j) (pos := p)) fun w H => .bl b) fun _ => rfl
    · cases h
  | .int i, X, sc, Wx, e, G, h, hp => by
    simp only [sameE] at h
    split at h
    · rename_i c j p
      have := of_decide_eq_true h
      subst this
      exact val_ok (s_const (g := g) (pf := pf) (Wx := Wx) (v := .int i) (pe_int (X := X) (i := i) (j := j) (pos := p)) fun w H => .int i) fun _ => rfl
    · cases h
  | .str x, X, sc, Wx, e, G, h, hp => by
    simp only [sameE] at h
    split at h
    · rename_i c j p
      have e1 := eqS_ok (and1 h)
      subst e1
      exact val_ok (s_const (g := g) (pf := pf) (Wx := Wx) (v := .str x) (pe_str (X := X) (x := x) (j := j) (pos := p)) fun w H => .str x (and2 h)) fun _ => rfl
    · cases h
  | .var i, X, sc, Wx, e, G, h, hp => by
    simp only [sameE] at h
    split at h
    · obtain ⟨h1, h2, h3, h4⟩ := rdN_ok G h
      exact val_ok (s_var (g := g) (pf := pf) (Wx := Wx) (pe_var h1 h2 h3 h4)) fun _ => rfl
    · cases h
  | .glb x v, X, sc, Wx, e, G, h, hp => by
    simp only [sameE] at h
    split at h
    · have e1 := eqS_ok (and1 h)
      subst e1
      have h2 := and2 (and2 h)
      split at h2
      · rename_i w hl
        exact val_ok (glb_ok (pf := pf) (p := _) G (and1 (and2 h)) hl h2) fun _ => rfl
      · cases h2
    · cases h
  | .tup es, X, sc, Wx, e, G, h, hp => by
    simp only [sameE] at h
    split at h
    · exact val_ok (s_tup (same_oks es X sc Wx _ G h hp)) fun _ => rfl
    · cases h
  | .lst es, X, sc, Wx, e, G, h, hp => by
    simp only [sameE] at h
    split at h
    · exact val_ok (s_lst (same_oks es X sc Wx _ G h hp)) fun _ => rfl
    · cases h
  | .op o a b, X, sc, Wx, e, G, h, hp => by
    simp only [sameE] at h
    split at h
    · rename_i c p d pos
      cases isBO_ok (and1 h)
      have qa := same_ok a X sc Wx c G (and1 (and2 h)) fun z => and1 (hp z)
      have qb := same_ok b X sc Wx d G (and2 (and2 h)) fun z => and2 (hp z)
      exact val_ok (s_op (pos := pos) (o := o) G.md.hK qa.1 qb.1) fun _ => rfl
    · cases h
  | .cmp o a b, X, sc, Wx, e, G, h, hp => by
    simp only [sameE] at h
    split at h
    · rename_i c p d pos
      cases isCO_ok (and1 h)
      have qa := same_ok a X sc Wx c G (and1 (and2 (and2 h))) fun z => and1 (hp z)
      have qb := same_ok b X sc Wx d G (and2 (and2 (and2 h))) fun z => and2 (hp z)
      exact s_cmp G.md.hK (units65 G.room) (noSet_mark (and1 (and2 h))) qa.1 qb.1
    · cases h
  | .cmp2 o o' a b c, X, sc, Wx, e, G, h, hp => by
    simp only [sameE] at h
    split at h
    · rename_i d p p' f m pos
      cases isCO_ok (and1 h)
      cases isCO_ok (and1 (and2 h))
      have h1 := and2 (and2 h)
      have qa := same_ok a X sc Wx d G (and1 (and2 h1)) fun z => and1 (hp z)
      have qb := same_ok b X sc Wx f G (and1 (and2 (and2 h1))) fun z => and1 (and2 (hp z))
      have qc := same_ok c X sc Wx m G (and2 (and2 (and2 h1))) fun z => and2 (and2 (hp z))
      exact s_chain G.md.hK (units65 G.room) (noSet_mark (and1 h1)) qa.1 qb.1 qc.1
    · cases h
  | .isN a, X, sc, Wx, e, G, h, hp => by
    simp only [sameE] at h
    split at h
    · exact s_isN (same_ok a X sc Wx _ G h hp).1
    · cases h
  | .notN a, X, sc, Wx, e, G, h, hp => by
    simp only [sameE] at h
    split at h
    · exact s_notN (same_ok a X sc Wx _ G h hp).1
    · cases h
  | .isB b a, X, sc, Wx, e, G, h, hp => by
    simp only [sameE] at h
    split at h
    · rename_i c d j p p2
      have : b = d := by
        have h1 := and1 h
        cases b <;> cases d <;> first | rfl | cases h1
      subst this
      exact s_isB (same_ok a X sc Wx _ G (and2 h) hp).1 op_is_bl
    · cases h
  | .notB b a, X, sc, Wx, e, G, h, hp => by
    simp only [sameE] at h
    split at h
    · rename_i c d j p p2
      have : b = d := by
        have h1 := and1 h
        cases b <;> cases d <;> first | rfl | cases h1
      subst this
      exact s_notB (same_ok a X sc Wx _ G (and2 h) hp).1 op_isnot_bl
    · cases h
  | .and es, X, sc, Wx, e, G, h, hp => by
    simp only [sameE] at h
    split at h
    · rename_i fs pos
      have q := s_and (pos := pos) (same_oks es X sc Wx _ G (and2 h) hp) (by
        have h1 := and1 h
        intro z
        subst z
        cases h1)
      exact ⟨q.1, q.2.pt⟩
    · cases h
  | .or es, X, sc, Wx, e, G, h, hp => by
    simp only [sameE] at h
    split at h
    · rename_i fs pos
      have q := s_or (pos := pos) (same_oks es X sc Wx _ G (and2 h) hp) (by
        have h1 := and1 h
        intro z
        subst z
        cases h1)
      exact ⟨q.1, q.2.pt⟩
    · cases h
  | .not a, X, sc, Wx, e, G, h, hp => by
    simp only [sameE] at h
    split at h
    · have q := same_ok a X sc Wx _ G h hp
      exact s_not q.1 q.2
    · cases h
  | .neg a, X, sc, Wx, e, G, h, hp => by
    simp only [sameE] at h
    split at h
    · exact val_ok (s_neg (same_ok a X sc Wx _ G h hp).1) fun _ => rfl
    · cases h
  | .ite c a b, X, sc, Wx, e, G, h, hp => by
    simp only [sameE] at h
    split at h
    · have qc := same_ok c X sc Wx _ G (and1 h) fun z => and1 (hp z)
      have qa := same_ok a X sc Wx _ G (and1 (and2 h)) fun z => and1 (and2 (hp z))
      have qb := same_ok b X sc Wx _ G (and2 (and2 h)) fun z => and2 (and2 (hp z))
      exact ⟨s_if qc.2 qa.1 qb.1, (pt_ifE qc.2 qa.2 qb.2).imp ift_imp⟩
    · cases h
  | .idx a i, X, sc, Wx, e, G, h, hp => by
    simp only [sameE] at h
    split at h
    · have qa := same_ok a X sc Wx _ G (and1 (and2 h)) fun z => and1 (hp z)
      have qb := same_ok i X sc Wx _ G (and2 (and2 h)) fun z => and2 (hp z)
      exact val_ok (s_idx G.md.hK (units1 G.room) qa.1 qb.1 (noSlice_ok (and1 h))) fun _ => rfl
    · cases h
  | .slL a i, X, sc, Wx, e, G, h, hp => by
    simp only [sameE] at h
    split at h
    · exact val_ok (s_slL (same_ok a X sc Wx _ G (and1 h) fun z => and1 (hp z)).1 (same_ok i X sc Wx _ G (and2 h) fun z => and2 (hp z)).1) fun _ => rfl
    · cases h
  | .slH a i, X, sc, Wx, e, G, h, hp => by
    simp only [sameE] at h
    split at h
    · exact val_ok (s_slH (same_ok a X sc Wx _ G (and1 h) fun z => and1 (hp z)).1 (same_ok i X sc Wx _ G (and2 h) fun z => and2 (hp z)).1) fun _ => rfl
    · cases h
  | .slB a i j, X, sc, Wx, e, G, h, hp => by
    simp only [sameE] at h
    split at h
    · exact val_ok (s_slB (same_ok a X sc Wx _ G (and1 h) fun z => and1 (hp z)).1 (same_ok i X sc Wx _ G (and1 (and2 h)) fun z => and1 (and2 (hp z))).1 (same_ok j X sc Wx _ G (and2 (and2 h)) fun z => and2 (and2 (hp z))).1) fun _ => rfl
    · cases h
  | .call f es, X, sc, Wx, e, G, h, hp => by
    simp only [sameE] at h
    split at h
    · rename_i x p2 a0 as pos
      obtain ⟨hg, hd⟩ := glN_ok G (and1 h)
      have h2 := and1 (and2 h)
      split at h2
      · rename_i y n hf
        cases eqS_ok (and1 h2)
        have hn := of_decide_eq_true (and2 h2)
        obtain ⟨a, fd, ps, hl, hm, hk, hb, F⟩ := G.md.fns f _ n hf
        have qs := same_oks es X sc Wx _ G (and2 (and2 h)) fun z => and2 (hp z)
        exact val_ok (calls_ok (p2 := p2) (pos := pos) F (G.room.mono (Nat.le_succ k)) hg hm hk hb G.tk (by rw [hl]; exact hn) (fun z => and1 (hp z)) hd qs) fun _ => rfl
      · cases h2
    · cases h
  | .blt f es, X, sc, Wx, e, G, h, hp => by
    simp only [sameE] at h
    split at h
    · split at h
      · rename_i x p1 y p2 a q pos
        cases eqS_ok (and1 h)
        cases eqS_ok (and1 (and2 h))
        have h2 := and2 (and2 h)
        have qs := same_oks es X sc Wx _ G (and2 (and2 h2)) hp
        exact val_ok (srts_ok (p1 := p1) (p2 := p2) (q := q) (pos := pos) G.md.hK G.calm (glN_ok G (and1 h2)).1 (G.md.fre .sortedD) (glN_ok G (and1 (and2 h2))).1 G.md.set qs) fun _ => rfl
      · cases h
    · split at h
      · rename_i x p1 y p2 a q pos
        cases eqS_ok (and1 h)
        cases eqS_ok (and1 (and2 h))
        have h2 := and2 (and2 h)
        have qs := same_oks es X sc Wx _ G (and2 (and2 h2)) hp
        exact val_ok (lens_ok (p1 := p1) (p2 := p2) (q := q) (pos := pos) G.calm (glN_ok G (and1 h2)).1 (G.md.fre .len) (glN_ok G (and1 (and2 h2))).1 G.md.set qs) fun _ => rfl
      · cases h
    · rename_i hf2 hf
      split at h
      · rename_i x p2 a0 as pos
        cases eqS_ok (and1 h)
        have qs := same_oks es X sc Wx _ G (and2 (and2 h)) hp
        exact val_ok (blts_ok (p2 := p2) (pos := pos) G.md.hK (units65 G.room) G.calm (fun z => hf z) (fun z => hf2 z) (glN_ok G (and1 (and2 h))).1 (G.md.fre f) qs) fun _ => rfl
      · cases h
  | .isi a ty, X, sc, Wx, e, G, h, hp => by
    simp only [sameE] at h
    split at h
    · rename_i x p2 c y p3 pos
      cases eqS_ok (and1 h)
      cases eqS_ok (and1 (and2 h))
      have h1 := and1 (and2 (and2 h))
      have h2 := and2 (and2 (and2 h))
      have hty : ∀ c, ty ≠ .exc c := fun c z => by subst z; cases h1
      exact val_ok (s_isi (p2 := p2) (p3 := p3) (pos := pos) hty (glN_ok G (and1 h2)).1 G.md.isi (glN_ok G (and1 (and2 h2))).1 (G.md.ty ty hty) (same_ok a X sc Wx _ G (and2 (and2 (and2 h2))) hp).1 (noStar_ok (and1 (and2 (and2 h2))))) fun _ => rfl
    · cases h
  | .inT ng a x vs, X, sc, Wx, e, G, h, hp => by
    simp only [sameE] at h
    split at h
    · rename_i c p y p2 pos
      cases eqS_ok (and1 h)
      have hop : p = if ng then .NotIn else .In := by
        have h1 := and1 (and2 h)
        cases ng <;> cases p <;> first | rfl | cases h1
      subst hop
      obtain ⟨hg, hd⟩ := glN_ok G (and1 (and2 (and2 h)))
      have h3 := and2 (and2 (and2 h))
      have h4 := and1 h3
      split at h4
      · rename_i ws hl
        obtain ⟨at', us, hm, hw, hv⟩ := G.md.tup _ ws hl
        rw [eqPs_ok h4] at hv
        exact s_inT G.md.hK (units65 G.room) hg hm hw hv hd (same_ok a X sc Wx _ G (and2 h3) hp).1
      · cases h4
    · cases h
  | .comp elt tg kk es c own, X, sc, Wx, e, G, h, hp => by
    simp only [sameE] at h
    split at h
    · rename_i e' tg' iter ifs z scope pos
      have hz := of_decide_eq_true (and1 h)
      subst hz
      have h1 := and2 h
      have h2 := and2 (and2 (and2 h1))
      have h3 := and1 h2
      split at h3
      · rename_i fs hfs
        have h4 := and2 h2
        have hb := and1 h4
        have h5 := and2 h4
        have h6 := and2 (and2 h5)
        have qs := same_oks es X sc Wx _ G h3 fun z => and1 (and2 (hp z))
        have qe := fun (s : Shared) (H : Hp) (C : Addr) (cl : List (Str × Addr)) (fp : List Addr) => (same_ok elt _ scope W0 e' (G.blk hb s H C cl fp) (and1 (and2 h5)) fun z => and1 (hp z)).1
        have qc := fun (s : Shared) (H : Hp) (C : Addr) (cl : List (Str × Addr)) (fp : List Addr) => same_oks c _ scope W0 ifs (G.blk hb s H C cl fp) (and2 h6) fun z => and2 (and2 (hp z))
        exact val_ok (s_comp (pos := pos) (tgE := tg) (own := own) (fc := evl T c) (pc := pureEs T.pu c) G.calm (by rw [G.hN]; exact G.nd) G.md.hK (itArgs_ok hfs) G.md.it (ikOk_ok G (and1 (and2 (and2 h1)))) qs (blkOk_ok G hb) (fun s H C cl fp => sameG_ok (G.blk hb s H C cl fp) (and1 h1))
          (fun s H C cl fp => ifs_ok (qc s H C cl fp) (and1 h6)) qe (noSet_ok (and1 (and2 h1))) (fun i hi => by
            have h7 := List.all_eq_true.mp (and1 h5) i hi
            obtain ⟨j, h8, h9⟩ := List.any_eq_true.mp h7
            exact of_decide_eq_true h9 ▸ h8)) fun _ => rfl
      · cases h3
    · cases h
  | .dct t, X, sc, Wx, e, G, h, hp => by
    simp only [sameE] at h
    split at h
    · exact val_ok s_dct fun _ => rfl
    · cases h
  | .meth m a es, X, sc, Wx, e, G, h, hp => by
    simp only [sameE] at h
    split at h
    · rename_i o x ap g0 gs cp
      cases eqS_ok (and1 h)
      have h2 := and2 (and2 (and2 h))
      have qa := same_ok a X sc Wx o G (and1 (and2 h2)) fun z => and1 (hp z)
      have qs := same_oks es X sc Wx _ G (and2 (and2 h2)) fun z => and2 (hp z)
      exact val_ok (s_meth G.md.hK (units65 G.room) qa.1 qs (and1 (and2 h)) (and1 (and2 (and2 h))) (of_decide_eq_true (and1 h2))) fun _ => rfl
    · cases h
  | .rev a, X, sc, Wx, e, G, h, hp => by
    simp only [sameE] at h
    split at h
    · exact val_ok (s_rev (same_ok a X sc Wx _ G h hp).1) fun _ => rfl
    · cases h
  | .fld a f, X, sc, Wx, e, G, h, hp => by
    simp only [sameE] at h
    split at h
    · rename_i b x pos
      cases eqS_ok (and1 h)
      have h2 := and2 h
      obtain ⟨f', hf, e1⟩ := List.any_eq_true.mp (and1 h2)
      have hf' : f ∈ M.flds := eqS_ok e1 ▸ hf
      exact val_ok (s_fld G.md.clo (fun c hc => G.md.cla c hc f hf') (same_ok a X sc Wx b G (and2 (and2 h2)) hp).1 (noCall0_ok (and1 (and2 h2)) _ _ _)) fun _ => rfl
    · cases h
  | .fldF a f, X, sc, Wx, e, G, h, hp => by
    simp only [sameE] at h
    split at h
    · rename_i b x pos
      cases eqS_ok (and1 h)
      have h2 := and2 h
      obtain ⟨f', hf, e1⟩ := List.any_eq_true.mp (and1 h2)
      have hf' : f ∈ M.flds := eqS_ok e1 ▸ hf
      exact val_ok (s_fldF G.md.clo (fun c hc => G.md.cla c hc f hf') (same_ok a X sc Wx b G (and2 (and2 h2)) hp).1 (noCall0_ok (and1 (and2 h2)) _ _ _)) fun _ => rfl
    · cases h
  | .mcall f c a m es, X, sc, Wx, e, G, h, hp => by
    simp only [sameE] at h
    split at h
    · rename_i o x ap gs cp
      cases eqS_ok (and1 h)
      have h2 := and2 (and2 (and2 h))
      have h3 := and2 h2
      have h4 := and1 h3
      split at h4
      · rename_i y n c' hf
        cases eqS_ok (and1 h4)
        have h5 := and2 (and2 h4)
        have hc := of_decide_eq_true (and1 h5)
        subst hc
        have hn := of_decide_eq_true (and2 h5)
        have hne : m ≠ ("__init__" : Str) := by
          have := and1 (and2 h4)
          unfold eqS at this
          simpa using this
        obtain ⟨hc, a', fd, ps, hl, hb, F, hm, _⟩ := G.md.met f _ n _ hf
        have qs := same_oks es X sc Wx gs G (and2 (and2 h3)) fun z => and2 (and2 (hp z))
        exact val_ok (s_met F (G.room.mono (Nat.le_succ k)) (G.md.clo _ hc) (hm hne) hb G.tk (by rw [← qs.len, hl]; exact hn) (fun z => and1 (hp z)) (same_ok a X sc Wx o G (and1 (and2 h3)) fun z => and1 (and2 (hp z))).1 (and1 (and2 h)) (and1 (and2 (and2 h))) (of_decide_eq_true (and1 h2)) qs) fun _ => rfl
      · cases h4
    · cases h
  | .mk c x f es, X, sc, Wx, e, G, h, hp => by
    simp only [sameE] at h
    split at h
    · rename_i y p2 a0 as pos
      cases eqS_ok (and1 h)
      obtain ⟨hg, hd⟩ := glN_ok G (and1 (and2 h))
      have h2 := and2 (and2 h)
      have h3 := and1 h2
      split at h3
      · rename_i z n c' hf
        cases eqS_ok (and1 h3)
        have hc := of_decide_eq_true (and1 (and2 h3))
        subst hc
        have hn := of_decide_eq_true (and2 (and2 h3))
        obtain ⟨hc, a', fd, ps, hl, hb, F, _, hm⟩ := G.md.met f _ n _ hf
        obtain ⟨M1, hgl⟩ := hm rfl
        have hpf : pf = false := by
          cases pf with
          | false => rfl
          | true => exact absurd (hp rfl) (by simp only [pureE]; exact fun z => nomatch z)
        have qs := same_oks es X sc Wx (a0 :: as) G (and2 (and2 h2)) fun z => by rw [hpf] at z; cases z
        have hx : M.cls[c']? = some x := by
          have h4 := and1 (and2 h2)
          split at h4
          · rename_i w hw
            rw [hw, eqS_ok h4]
          · cases h4
        exact val_ok (s_mk (p := pureEs T.pu es) F G.room hc M1 hg (hgl _ hx) hd hb G.tk (by rw [← qs.len, hl]; exact hn) hpf qs) fun _ => rfl
      · cases h3
    · cases h
  | .isx a x c, X, sc, Wx, e, G, h, hp => by
    simp only [sameE] at h
    split at h
    · rename_i y p2 b z p3 pos
      cases eqS_ok (and1 h)
      cases eqS_ok (and1 (and2 h))
      have h2 := and2 (and2 h)
      have h3 := and2 (and2 h2)
      obtain ⟨hg2, hd⟩ := glN_ok G (and1 (and2 h2))
      have hx : M.exc[c]? = some x ∨ (c = 99 ∧ x = "ValueError") := by
        have h4 := and1 (and2 h3)
        split at h4
        · rename_i w hw
          rw [hw, eqS_ok h4]
          exact .inl rfl
        · exact .inr ⟨of_decide_eq_true (and1 h4), eqS_ok (and2 h4)⟩
      exact val_ok (s_isx (p2 := p2) (p3 := p3) (pos := pos) G.md.hK G.md.exo hx (glN_ok G (and1 h2)).1 G.md.isi hg2 hd (same_ok a X sc Wx _ G (and2 (and2 h3)) hp).1 (noStar_ok (and1 h3))) fun _ => rfl
    · cases h
theorem same_oks : ∀ (ts : List CE) (X : Cx) (sc : Scope) (Wx : WX) (es : List Expr), Gd X g M T N sc Wx k → sameEs M N ts sc es = true → (pf = true → pureEs T.pu ts = true) → PEs X g pf Wx es (evl T ts) (pureEs T.pu ts)
  | [], X, sc, Wx, [], G, h, hp => .nil
  | [], X, sc, Wx, _ :: _, G, h, hp => by simp [sameEs] at h
  | _ :: _, X, sc, Wx, [], G, h, hp => by simp [sameEs] at h
  | t :: ts, X, sc, Wx, e :: es, G, h, hp => by
    simp only [sameEs] at h
    have q := same_ok t X sc Wx e G (and1 (and2 h)) fun z => and1 (hp z)
    exact .cons q.1 q.2 (noStar_ok (and1 h)) (same_oks ts X sc Wx es G (and2 (and2 h)) fun z => and2 (hp z))
end
end
end D

/-! D18: the same text, statement by statement. -/
namespace D
open PySem PySem.Spec PyProof.Rows L2

mutual
def pureS (p : Nat → Bool) : CS → Bool
  | .ret e | .asg _ e | .own _ e | .app _ e | .ext _ e => pureE p e
  | .retO _ | .brk | .cont | .pass => true
  | .ife c a b => pureE p c && (pureSs p a && pureSs p b)
  | .fr _ _ es b _ => pureEs p es && pureSs p b
  | .wh _ c b _ => pureE p c && pureSs p b
  | .frz _ s => pureS p s
  | .put _ k v => pureE p k && pureE p v
  | .putA _ k e c k2 x => pureE p k && (pureE p e && (pureE p c && (pureE p k2 && pureE p x)))
  | .exp e => pureE p e
  | .rais _ _ => true
  | .tryk b _ _ _ _ => pureSs p b
  | .fset _ _ _ | .fput _ _ _ _ | .fapp _ _ _ | .fpop _ _ _ => false
  | .pop _ k => pureE p k
  | .popl _ _ => true
  | .par _ es => pureEs p es
def pureSs (p : Nat → Bool) : List CS → Bool
  | [] => true
  | s :: ss => pureS p s && pureSs p ss
end
/-- a comprehension that stands on its name's line -/
def swB (sc : Scope) (y : Str) (py : Pos) : Expr → Bool
  | .ListComp _ _ s p => (match sc.names.lookup y with | some .local => true | _ => false) && (py.line == p.line && !(s.names.any fun (n, k) => n == y && (k == .local || k == .cell)))
  | _ => false
def noComp : Expr → Bool
  | .SetComp _ _ _ _ => false
  | .DictComp _ _ _ _ _ => false
  | _ => true
def noTup : Expr → Bool
  | .Tuple _ _ _ => false
  | _ => true
def noLC : Expr → Bool
  | .ListComp _ _ _ _ => false
  | .SetComp _ _ _ _ => false
  | .DictComp _ _ _ _ _ => false
  | _ => true
def isNonE : CE → Bool
  | .non => true
  | _ => false
theorem isNonE_ok {e : CE} (h : isNonE e = true) : e = .non := by cases e <;> first | rfl | cases h
/-- d[k] = [..]; if c: d[k].append(x) -/
def sameA (M : Md) (N : List Str) (sc : Scope) : CS → Stmt → Stmt → Bool
  | .putA i k e c k2 x, st, st2 => (match st, st2 with
    | .Assign [.Subscript (.Name d _) kx _] vx _, .If cx [.Expr (.Call (.Attribute (.Subscript (.Name d2 _) k2x _) m apos) [ax] [] cpos) _] [] _ =>
      eqS m "append" && (rdN N sc i d && (rdN N sc i d2 && (noSl kx && (noSlice k2x && (noStar ax && ((apos.endLine == cpos.line) && (sameE M N k sc kx && (sameE M N e sc vx && (sameE M N c sc cx && (sameE M N k2 sc k2x && sameE M N x sc ax))))))))))
    | _, _ => false)
  | _, _, _ => false
def pairB : List CS → List Stmt → (Stmt → Bool) → Bool
  | [], [t2], f => f t2
  | _, _, _ => false
mutual
def sameS (M : Md) (N : List Str) (sc : Scope) : CS → Stmt → Bool
  | .ret e, st => (match st with | .Return (some x) _ => sameE M N e sc x | .Return none _ => isNonE e | _ => false)
  | .retO i, st => (match st with | .Return (some (.Name x _)) _ => rdN N sc i x | _ => false)
  | .asg tg e, st => (match tg, st with
    | .nm i, .Assign [.Name y _] x _ => wrN N sc i y && (noComp x && sameE M N e sc x)
    | .tp ts, .Assign [.Tuple es _ _] x _ => sameGs N sc ts es && (noTup x && sameE M N e sc x)
    | _, _ => false)
  | .own i e, st => (match st with | .Assign [.Name y _] x _ => wrN N sc i y && (noComp x && sameE M N e sc x) | _ => false)
  | .app i e, st => (match st with | .Expr (.Call (.Attribute (.Name y _) a ap) [x] [] cp) _ => eqS a "append" && (rdN N sc i y && ((ap.endLine == cp.line) && (noStar x && sameE M N e sc x))) | _ => false)
  | .ext i e, st => (match st with | .Expr (.Call (.Attribute (.Name y _) a ap) [x] [] cp) _ => eqS a "extend" && (rdN N sc i y && ((ap.endLine == cp.line) && (noStar x && sameE M N e sc x))) | _ => false)
  | .ife c a b, st => (match st with | .If x f h _ => sameE M N c sc x && (sameSs M N sc a f && sameSs M N sc b h) | _ => false)
  | .fr tg k es b _, st => (match st with | .For t x body [] _ => sameG N sc tg t && (noSet x && (ikOk sc k && ((match itArgs k t x with | some fs => sameEs M N es sc fs | none => false) && sameSs M N sc b body))) | _ => false)
  | .wh _ c b _, st => (match st with | .While x body [] _ => sameE M N c sc x && sameSs M N sc b body | _ => false)
  | .brk, st => (match st with | .Break _ => true | _ => false)
  | .cont, st => (match st with | .Continue _ => true | _ => false)
  | .pass, st => (match st with | .Pass _ => true | .Expr (.Constant (.str _) _ _) _ => true | _ => false)
  | .frz _ s, st => sameS M N sc s st
  | .put i k v, st => (match st with | .Assign [.Subscript (.Name x _) kx _] vx _ => rdN N sc i x && (noSl kx && (sameE M N k sc kx && sameE M N v sc vx)) | _ => false)
  | .putA _ _ _ _ _ _, _ => false
  | .exp e, st => (match st with | .Expr x _ => noLC x && sameE M N e sc x | _ => false)
  | .rais x c, st => (match st with | .Raise (some (.Call (.Name y _) [.Constant (.str _) _ _] [] _)) none _ => eqS x y && (glN sc y && (match M.exc[c]? with | some w => eqS w y | none => false)) | _ => false)
  | .fset a f e, st => (match st with | .Assign [.Attribute o x _] vx _ => eqS x f && (M.flds.any (eqS f) && (noLC vx && (sameE M N a sc o && sameE M N e sc vx))) | _ => false)
  | .fput i f k v, st => (match st with | .Assign [.Subscript (.Attribute (.Name x _) y _) kx _] vx _ => eqS y f && (M.flds.any (eqS f) && (rdN N sc i x && (noSl kx && (sameE M N k sc kx && sameE M N v sc vx)))) | _ => false)
  | .fapp i f e, st => (match st with | .Expr (.Call (.Attribute (.Attribute (.Name x _) y _) m ap) [ax] [] cp) _ => eqS m "append" && (eqS y f && (M.flds.any (eqS f) && (rdN N sc i x && ((ap.endLine == cp.line) && (noStar ax && sameE M N e sc ax))))) | _ => false)
  | .fpop i f k, st => (match st with | .Expr (.Call (.Attribute (.Attribute (.Name x _) y _) m ap) [ax] [] cp) _ => eqS m "pop" && (eqS y f && (M.flds.any (eqS f) && (rdN N sc i x && ((ap.endLine == cp.line) && (noStar ax && sameE M N k sc ax))))) | _ => false)
  | .pop i k, st => (match st with | .Expr (.Call (.Attribute (.Name x _) m ap) [ax] [] cp) _ => eqS m "pop" && (rdN N sc i x && ((ap.endLine == cp.line) && (noStar ax && sameE M N k sc ax))) | _ => false)
  | .popl j i, st => (match st with | .Assign [.Name y _] (.Call (.Attribute (.Name x _) m ap) [] [] cp) _ => eqS m "pop" && (wrN N sc j y && (rdN N sc i x && ((ap.endLine == cp.line) && !decide (i = j)))) | _ => false)
  | .par _ _, _ => false
  | .tryk b x c i j, st => (match st with
    | .Try body [.ExceptHandler (some (.Name y _)) (some n) [.Assign [.Name k _] (.Name n2 _) _] _] [] [] _ => eqS x y && (glN sc y && ((match M.exc[c]? with | some w => eqS w y | none => false) && (wrN N sc i n && ((match sc.names.lookup n with | some .local => true | _ => false) && (rdN N sc i n2 && (wrN N sc j k && sameSs M N sc b body))))))
    | _ => false)
def sameSs (M : Md) (N : List Str) (sc : Scope) : List CS → List Stmt → Bool
  | [], [] => true
  | s :: ss, t :: ts => pairB ss ts (sameA M N sc s t) || (sameS M N sc s t && sameSs M N sc ss ts)
  | _, _ => false
end

section
variable {g : Gx} {M : Md} {T : Tb} {N : List Str} {k : Nat} {pf : Bool} {X : Cx} {sc : Scope} {Wx : WX}
theorem sw_of (G : Gd X g M T N sc Wx k) {x : Expr} {y : Str} {py : Pos} {l : Nat} {i : Nat} (h : noComp x = true) (hw : wrN N sc i y = true) : swapsWith x (some (.Name y py)) l X.env = pure (swB sc y py x) := by
  cases x
  case ListComp e gs s p =>
    have hb : X.env.blockKind = .function := by unfold Env.blockKind; rw [G.sc.kin]; rfl
    have hk : (X.env.kindOf y == some .local) = (match sc.names.lookup y with | some .local => true | _ => false) := by
      have h2 := and2 hw
      unfold Env.kindOf
      split at h2
      · rename_i e; rw [G.sc.loc _ e, e]; rfl
      · rename_i e; rw [(G.sc.cel _ e).1, e]; rfl
      · cases h2
    unfold swapsWith swB
    simp only [hb, hk, Expr.pos]
    simp only [BEq.rfl, Bool.true_and, Bool.and_assoc]
  case SetComp => cases h
  case DictComp => cases h
  all_goals rfl
theorem comp_set (G : Gd X g M T N sc Wx k) {elt : CE} {tg : CT} {kk : IK} {es c : List CE} {own : List (Str × Nat)} {x : Expr} {y : Str} {py spos : Pos} {i : Nat} (h : sameE M N (.comp elt tg kk es c own) sc x = true) (hp : pf = true → pureE T.pu (.comp elt tg kk es c own) = true)
    (hi : X.N[i]? = some y) (hl : X.env.scope.names.lookup y = some .local) (hsw : swapsWith x (some (.Name y py)) spos.line X.env = pure true) :
    PS X (.Assign [.Name y py] x spos) (tAsg (tE g pf Wx (pureE T.pu (.comp elt tg kk es c own)) (ev T (.comp elt tg kk es c own))) (gName i)) := by
  simp only [sameE] at h
  split at h
  · rename_i e' tg' iter ifs z scope pos
    have hz := of_decide_eq_true (and1 h)
    subst hz
    have h1 := and2 h
    have h2 := and2 (and2 (and2 h1))
    have h3 := and1 h2
    split at h3
    · rename_i fs hfs
      have h4 := and2 h2
      have hb := and1 h4
      have h5 := and2 h4
      have h6 := and2 (and2 h5)
      have qs := same_oks es X sc Wx _ G h3 fun z => and1 (and2 (hp z))
      have qe := fun (s : Shared) (H : Hp) (C : Addr) (cl : List (Str × Addr)) (fp : List Addr) => (same_ok elt _ scope W0 e' (G.blk hb s H C cl fp) (and1 (and2 h5)) fun z => and1 (hp z)).1
      have qc := fun (s : Shared) (H : Hp) (C : Addr) (cl : List (Str × Addr)) (fp : List Addr) => same_oks c _ scope W0 ifs (G.blk hb s H C cl fp) (and2 h6) fun z => and2 (and2 (hp z))
      refine (ps_setLc G.calm (by rw [G.hN]; exact G.nd) hi hl hsw (s_iter G.md.hK (itArgs_ok hfs) G.md.it (ikOk_ok G (and1 (and2 (and2 h1)))) qs) (blkOk_ok G hb) (fun s H C cl fp => s_tg (X := X.blk s H scope (compEnvC scope cl C X.env) fp) (g := g) (pf := pf) (t := tg) (by rw [show (X.blk s H scope (compEnvC scope cl C X.env) fp).N = X.N from rfl, G.hN]; exact G.nd) G.calm G.md.hK (sameG_ok (G.blk hb s H C cl fp) (and1 h1)))
        (fun s H C cl fp => ifs_ok (qc s H C cl fp) (and1 h6)) qe (noSet_ok (and1 (and2 h1)))).imp fun D σ H z => comp_imp (g := g) (pf := pf) (pe := pureE T.pu elt) (pes := pureEs T.pu es) (pc := pureEs T.pu c) (Wx := Wx) (fe := ev T elt) (fs := evl T es) (fc := evl T c) (own := own) (k := kk) (tgE := tg) (fun i hi => by
            have h7 := List.all_eq_true.mp (and1 h5) i hi
            obtain ⟨j, h8, h9⟩ := List.any_eq_true.mp h7
            exact of_decide_eq_true h9 ▸ h8) σ H _ z
    · cases h3
  · cases h
theorem set_ok (G : Gd X g M T N sc Wx k) {e : CE} {x : Expr} {y : Str} {py spos : Pos} {i : Nat} (hw : wrN N sc i y = true) (hc : noComp x = true) (h : sameE M N e sc x = true) (hp : pf = true → pureE T.pu e = true) :
    PS X (.Assign [.Name y py] x spos) (tAsg (tE g pf Wx (pureE T.pu e) (ev T e)) (gName i)) := by
  obtain ⟨h1, h2, h3⟩ := wrN_ok G hw
  have sw := sw_of (py := py) (l := spos.line) G hc hw
  cases hb : swB sc y py x with
  | false =>
    rw [hb] at sw
    exact ps_set (by rw [G.hN]; exact G.nd) h1 h2 (same_ok e X sc Wx x G h hp).1 sw h3
  | true =>
    rw [hb] at sw
    unfold swB at hb
    split at hb
    · have hl : X.env.scope.names.lookup y = some .local := by
        have h4 := and1 hb
        split at h4
        · rename_i e; exact G.sc.loc _ e
        · cases h4
      cases e <;> first | (exact comp_set G h hp h1 hl sw) | (exfalso; simp [sameE] at h; done) | skip
      rename_i f es
      exfalso
      cases f <;> simp [sameE] at h
    · cases hb
theorem noTup_ok {x : Expr} {es : List Expr} {kk : Nat} {p : Pos} {env : Env} (h : noTup x = true) (l : Nat) : swappedStores [.Tuple es kk p] x env = pure none ∧ swapsWithSole [.Tuple es kk p] x l env = pure false := by
  cases x <;> first | exact ⟨rfl, rfl⟩ | cases h
theorem noLC_ok {x : Expr} {l : Nat} {env : Env} (h : noLC x = true) : swapsWith x none l env = pure false := by
  cases x <;> first | rfl | cases h
theorem noLC_ok' {x o : Expr} {f : Str} {p : Pos} {l : Nat} {env : Env} (h : noLC x = true) : swapsWith x (some (.Attribute o f p)) l env = pure false := by
  cases x <;> first | rfl | cases h
theorem sameA_ok (s : CS) (X : Cx) (Wx : WX) (G : Gd X g M T N sc Wx k) (st st2 : Stmt) (h : sameA M N sc s st st2 = true) (hp : pf = true → pureS T.pu s = true) : PSs X [st, st2] (tS g pf Wx (ex T s)) := by
  cases s
  case putA i kk e c k2 x =>
    simp only [sameA] at h
    split at h
    · cases eqS_ok (and1 h)
      have h1 := and2 h
      obtain ⟨a1, a2, a3, a4⟩ := rdN_ok G (and1 h1)
      have h2 := and2 h1
      obtain ⟨b1, b2, b3, b4⟩ := rdN_ok G (and1 h2)
      have h3 := and2 h2
      have h4 := and2 h3
      have h5 := and2 h4
      have h6 := and2 h5
      have h7 := and2 h6
      have h8 := and2 h7
      have h9 := and2 h8
      have hA := and2 h9
      exact s_putA (fun z => ⟨and1 z, and1 (and2 z), and2 (and2 z)⟩) (units1 G.room) (pe_var a1 a2 a3 a4) (same_ok kk X sc Wx _ G (and1 h7) fun z => and1 (hp z)).1 (same_ok e X sc Wx _ G (and1 h8) fun z => and1 (and2 (hp z))).1 (and1 h3)
        (same_ok c X sc Wx _ G (and1 h9) fun z => and1 (and2 (and2 (hp z)))).2 (pe_var b1 b2 b3 b4) (same_ok k2 X sc Wx _ G (and1 hA) fun z => and1 (and2 (and2 (and2 (hp z))))).1 (noSlice_ok (and1 h4)) (same_ok x X sc Wx _ G (and2 hA) fun z => and2 (and2 (and2 (and2 (hp z))))).1
        rfl (and1 h6) (noStar_ok (and1 h5))
    · cases h
  all_goals (simp [sameA] at h)
mutual
theorem sameS_ok : ∀ (s : CS) (X : Cx) (Wx : WX) (G : Gd X g M T N sc Wx k) (ow : PassesOwn (model X.prog X.w) X.A X.env X.xe) (fr : X.stack = X.env :: X.outer ∧ X.env.frame = some X.env.locals) (st : Stmt), sameS M N sc s st = true → (pf = true → pureS T.pu s = true) → PS X st (tS g pf Wx (ex T s))
  | .ret e, X, Wx, G, ow, fr, st, h, hp => by
    simp only [sameS] at h
    split at h
    · exact s_ret (same_ok e X sc Wx _ G h hp).1
    · cases isNonE_ok h
      exact s_retN
    · cases h
  | .retO i, X, Wx, G, ow, fr, st, h, hp => by
    simp only [sameS] at h
    split at h
    · obtain ⟨h1, h2, h3, h4⟩ := rdN_ok G h
      exact s_retO (pe_var h1 h2 h3 h4)
    · cases h
  | .asg tg e, X, Wx, G, ow, fr, st, h, hp => by
    simp only [sameS] at h
    split at h
    · exact (set_ok G (and1 h) (and1 (and2 h)) (and2 (and2 h)) hp).imp asgN_imp
    · rename_i ts es kk p x pos
      obtain ⟨h1, h2⟩ := noTup_ok (es := es) (kk := kk) (p := p) (env := X.env) (and1 (and2 h)) pos.line
      exact s_setT (by rw [G.hN]; exact G.nd) G.calm G.md.hK (sameGs_ok G (and1 h)) (same_ok e X sc Wx _ G (and2 (and2 h)) hp).1 h2 h1
    · cases h
  | .own i e, X, Wx, G, ow, fr, st, h, hp => by
    simp only [sameS] at h
    split at h
    · exact (set_ok G (and1 h) (and1 (and2 h)) (and2 (and2 h)) hp).imp own_imp
    · cases h
  | .app i e, X, Wx, G, ow, fr, st, h, hp => by
    simp only [sameS] at h
    split at h
    · cases eqS_ok (and1 h)
      obtain ⟨h1, h2, h3, h4⟩ := rdN_ok G (and1 (and2 h))
      have h5 := and2 (and2 h)
      exact s_app (pe_var h1 h2 h3 h4) (same_ok e X sc Wx _ G (and2 (and2 h5)) hp).1 rfl (and1 h5) (noStar_ok (and1 (and2 h5)))
    · cases h
  | .ext i e, X, Wx, G, ow, fr, st, h, hp => by
    simp only [sameS] at h
    split at h
    · cases eqS_ok (and1 h)
      obtain ⟨h1, h2, h3, h4⟩ := rdN_ok G (and1 (and2 h))
      have h5 := and2 (and2 h)
      exact s_ext (pe_var h1 h2 h3 h4) (same_ok e X sc Wx _ G (and2 (and2 h5)) hp).1 rfl (and1 h5) (noStar_ok (and1 (and2 h5)))
    · cases h
  | .ife c a b, X, Wx, G, ow, fr, st, h, hp => by
    simp only [sameS] at h
    split at h
    · exact s_ifS (same_ok c X sc Wx _ G (and1 h) fun z => and1 (hp z)).2 (sameSs_ok a X Wx G ow fr _ (and1 (and2 h)) fun z => and1 (and2 (hp z))) (sameSs_ok b X Wx G ow fr _ (and2 (and2 h)) fun z => and2 (and2 (hp z)))
    · cases h
  | .fr tg kk es b kil, X, Wx, G, ow, fr, st, h, hp => by
    simp only [sameS] at h
    split at h
    · have h3 := and2 (and2 (and2 h))
      have h4 := and1 h3
      split at h4
      · rename_i fs hfs
        exact s_for ow (by rw [G.hN]; exact G.nd) G.calm G.md.hK (itArgs_ok hfs) G.md.it (ikOk_ok G (and1 (and2 (and2 h)))) (same_oks es X sc Wx _ G h4 fun z => and1 (hp z)) (sameG_ok G (and1 h)) (sameSs_ok b X Wx G ow fr _ (and2 h3) fun z => and2 (hp z)) (noSet_ok (and1 (and2 h)))
      · cases h4
    · cases h
  | .wh n c b kil, X, Wx, G, ow, fr, st, h, hp => by
    simp only [sameS] at h
    split at h
    · exact s_while ow (same_ok c X sc Wx _ G (and1 h) fun z => and1 (hp z)).2 (sameSs_ok b X Wx G ow fr _ (and2 h) fun z => and2 (hp z))
    · cases h
  | .brk, X, Wx, G, ow, fr, st, h, hp => by
    simp only [sameS] at h
    split at h
    · exact s_brk
    · cases h
  | .cont, X, Wx, G, ow, fr, st, h, hp => by
    simp only [sameS] at h
    split at h
    · exact s_cont
    · cases h
  | .pass, X, Wx, G, ow, fr, st, h, hp => by
    simp only [sameS] at h
    split at h
    · exact s_pass
    · exact s_doc
    · cases h
  | .frz is s, X, Wx, G, ow, fr, st, h, hp => by
    simp only [sameS] at h
    exact s_frz (sameS_ok s X Wx G ow fr st h hp)
  | .put i kk v, X, Wx, G, ow, fr, st, h, hp => by
    simp only [sameS] at h
    split at h
    · obtain ⟨h1, h2, h3, h4⟩ := rdN_ok G (and1 h)
      have h5 := and2 (and2 h)
      exact s_put (units1 G.room) (pe_var h1 h2 h3 h4) (same_ok kk X sc Wx _ G (and1 h5) fun z => and1 (hp z)).1 (same_ok v X sc Wx _ G (and2 h5) fun z => and2 (hp z)).1 (and1 (and2 h))
    · cases h
  | .putA _ _ _ _ _ _, X, Wx, G, ow, fr, st, h, hp => by
    simp only [sameS] at h
    cases h
  | .exp e, X, Wx, G, ow, fr, st, h, hp => by
    simp only [sameS] at h
    split at h
    · rename_i x pos
      exact s_exp (same_ok e X sc Wx _ G (and2 h) hp).1 (noLC_ok (and1 h))
    · cases h
  | .rais x c, X, Wx, G, ow, fr, st, h, hp => by
    simp only [sameS] at h
    split at h
    · rename_i y p1 m j p2 p3 pos
      cases eqS_ok (and1 h)
      obtain ⟨hg, hd⟩ := glN_ok G (and1 (and2 h))
      have h3 := and2 (and2 h)
      split at h3
      · rename_i w hw
        exact s_rais G.md.hK G.md.exo G.calm G.tk (by rw [hw, eqS_ok h3]) hg hd
      · cases h3
    · cases h
  | .fset a f e, X, Wx, G, ow, fr, st, h, hp => by
    have hpf : pf = false := by
      cases pf with
      | false => rfl
      | true => exact absurd (hp rfl) (by simp only [pureS]; exact fun z => nomatch z)
    simp only [sameS] at h
    split at h
    · rename_i o x p2 vx pos
      cases eqS_ok (and1 h)
      have h2 := and2 h
      obtain ⟨f', hf, e1⟩ := List.any_eq_true.mp (and1 h2)
      have hf' : f ∈ M.flds := eqS_ok e1 ▸ hf
      have h3 := and2 (and2 h2)
      exact s_fset hpf G.md.clo (fun c hc => G.md.cla c hc f hf') (same_ok a X sc Wx o G (and1 h3) fun z => by rw [hpf] at z; cases z).1 (same_ok e X sc Wx vx G (and2 h3) fun z => by rw [hpf] at z; cases z).1 (noLC_ok' (and1 (and2 h2)))
    · cases h
  | .fput i f kk v, X, Wx, G, ow, fr, st, h, hp => by
    have hpf : pf = false := by
      cases pf with
      | false => rfl
      | true => exact absurd (hp rfl) (by simp only [pureS]; exact fun z => nomatch z)
    simp only [sameS] at h
    split at h
    · cases eqS_ok (and1 h)
      have h2 := and2 h
      obtain ⟨f', hf, e1⟩ := List.any_eq_true.mp (and1 h2)
      have hf' : f ∈ M.flds := eqS_ok e1 ▸ hf
      obtain ⟨h1, h2', h3, h4⟩ := rdN_ok G (and1 (and2 h2))
      have h5 := and2 (and2 h2)
      exact s_fput (units1 G.room) hpf G.md.clo (fun c hc => G.md.cla c hc f hf') (pe_var h1 h2' h3 h4) rfl id (same_ok kk X sc Wx _ G (and1 (and2 h5)) fun z => by rw [hpf] at z; cases z).1 (same_ok v X sc Wx _ G (and2 (and2 h5)) fun z => by rw [hpf] at z; cases z).1 (and1 h5)
    · cases h
  | .fapp i f e, X, Wx, G, ow, fr, st, h, hp => by
    have hpf : pf = false := by
      cases pf with
      | false => rfl
      | true => exact absurd (hp rfl) (by simp only [pureS]; exact fun z => nomatch z)
    simp only [sameS] at h
    split at h
    · cases eqS_ok (and1 h)
      cases eqS_ok (and1 (and2 h))
      have h2 := and2 (and2 h)
      obtain ⟨f', hf, e1⟩ := List.any_eq_true.mp (and1 h2)
      have hf' : f ∈ M.flds := eqS_ok e1 ▸ hf
      obtain ⟨h1, h2', h3, h4⟩ := rdN_ok G (and1 (and2 h2))
      have h5 := and2 (and2 h2)
      exact s_fapp hpf G.md.clo (fun c hc => G.md.cla c hc f hf') (pe_var h1 h2' h3 h4) rfl rfl id (same_ok e X sc Wx _ G (and2 (and2 h5)) fun z => by rw [hpf] at z; cases z).1 (and1 h5) (noStar_ok (and1 (and2 h5)))
    · cases h
  | .fpop i f kk, X, Wx, G, ow, fr, st, h, hp => by
    have hpf : pf = false := by
      cases pf with
      | false => rfl
      | true => exact absurd (hp rfl) (by simp only [pureS]; exact fun z => nomatch z)
    simp only [sameS] at h
    split at h
    · cases eqS_ok (and1 h)
      cases eqS_ok (and1 (and2 h))
      have h2 := and2 (and2 h)
      obtain ⟨f', hf, e1⟩ := List.any_eq_true.mp (and1 h2)
      have hf' : f ∈ M.flds := eqS_ok e1 ▸ hf
      obtain ⟨h1, h2', h3, h4⟩ := rdN_ok G (and1 (and2 h2))
      have h5 := and2 (and2 h2)
      exact s_fpop (units1 G.room) hpf G.md.clo (fun c hc => G.md.cla c hc f hf') (pe_var h1 h2' h3 h4) rfl rfl id (same_ok kk X sc Wx _ G (and2 (and2 h5)) fun z => by rw [hpf] at z; cases z).1 (and1 h5) (noStar_ok (and1 (and2 h5)))
    · cases h
  | .pop i kk, X, Wx, G, ow, fr, st, h, hp => by
    simp only [sameS] at h
    split at h
    · cases eqS_ok (and1 h)
      obtain ⟨h1, h2, h3, h4⟩ := rdN_ok G (and1 (and2 h))
      have h5 := and2 (and2 h)
      exact s_pop (units1 G.room) (pe_var h1 h2 h3 h4) (same_ok kk X sc Wx _ G (and2 (and2 h5)) hp).1 rfl (and1 h5) (noStar_ok (and1 (and2 h5)))
    · cases h
  | .popl j i, X, Wx, G, ow, fr, st, h, hp => by
    simp only [sameS] at h
    split at h
    · cases eqS_ok (and1 h)
      obtain ⟨n1, n2, n3⟩ := wrN_ok G (and1 (and2 h))
      have h2 := and2 (and2 h)
      obtain ⟨h1, h2', h3, h4⟩ := rdN_ok G (and1 h2)
      have h5 := and2 h2
      exact s_popl (by simpa using and2 h5) (by rw [G.hN]; exact G.nd) n1 n2 n3 (pe_var h1 h2' h3 h4) rfl (and1 h5)
    · cases h
  | .par _ _, X, Wx, G, ow, fr, st, h, hp => by
    simp only [sameS] at h
    cases h
  | .tryk b x c i j, X, Wx, G, ow, fr, st, h, hp => by
    simp only [sameS] at h
    split at h
    · rename_i body y p1 n kx p4 n2 p5 p6 p2 p3
      cases eqS_ok (and1 h)
      obtain ⟨hg, hd⟩ := glN_ok G (and1 (and2 h))
      have h3 := and2 (and2 h)
      have h4 := and2 h3
      have h5 := and2 h4
      have h6 := and2 h5
      have h7 := and2 h6
      have hx : M.exc[c]? = some x := by
        have h8 := and1 h3
        split at h8
        · rename_i w hw
          rw [hw, eqS_ok h8]
        · cases h8
      obtain ⟨n1, n3, n4⟩ := wrN_ok G (and1 h4)
      have hl : X.env.scope.names.lookup n = some .local := by
        have h8 := and1 h5
        split at h8
        · rename_i e; exact G.sc.loc _ e
        · cases h8
      obtain ⟨r1, r2, r3, r4⟩ := rdN_ok G (and1 h6)
      obtain ⟨k1, k2, k3⟩ := wrN_ok G (and1 h7)
      have hlt : c < g.nx := by rw [G.md.exo.nx]; exact (List.getElem?_eq_some_iff.mp hx).1
      refine (try_kept (i := i) (ts := fun a cls => tAsg (tVar i) (gName j)) (tb := fun W => tS g pf W (exs T b)) (Wout := Wx) fr.1 fr.2 (by rw [G.hN]; exact G.nd) n1 (by unfold Env.kindOf; exact hl) ⟨hg, hd, .inl (G.md.exo.gl c x hx)⟩ G.tk (fun W l xe tk ow2 => ?_) (fun a cls l => ?_)).imp fun D σ H ⟨w0, H0, w, env, W, rel, o⟩ => ⟨w0, H0, w, env, W, rel, ?_⟩
      · exact sameSs_ok b (X.tr l xe) W ⟨G.md, G.hN, G.nd, G.calm, ⟨G.sc.loc, G.sc.cel, G.sc.fre, G.sc.glo, G.sc.kin⟩, G.room, tk⟩ ow2 fr body (and2 h7) hp
      · exact pss_one (ps_set (X := X.suite a l) (by show X.N.Nodup; rw [G.hN]; exact G.nd) k1 k2 (pe_var (X := X.suite a l) r1 r2 r3 r4) rfl k3)
      · have o : oS g pf Wx w0 H0 w H D (xTryk (exs T b) c i j env W) := o
        unfold xTryk at o
        cases q : exs T b env W with
        | bad => rw [q] at o; exact o
        | ok f env' W' =>
          rw [q] at o
          cases f <;> exact o
        | exc c' env' W' =>
          rw [q] at o
          intro hc w' σ' H' fz rel'
          refine ⟨esub c' c, (G.md.exo.em c' c hc hlt).1, fun e => ⟨rfl, fun a ha => ?_⟩, fun e => ?_⟩
          · simp only [e, if_true] at o
            split at o
            case isFalse => exact o.elim
            rename_i hi0
            have rl := rel'.laidF (o := ExH (.ref (g.ca c')) a) ha
            have rp : Rp g (w'.frz a) (upd H' a (ExH (.ref (g.ca c')) a)) (.ref a) (.exc c') := .exc hc (.inl rfl) upd_same
            have ra := (rl.set i rp)
            refine ⟨.ref a, ?_, ?_⟩
            · exact List.getElem?_set_self (by rw [← rel'.len]; exact hi0)
            · have rb := (ra.set j rp).put1 i .un none (fun c z => by cases z) trivial
              exact o _ _ _ (fz.trans (Fz.trans (Ext.laidF rel'.wk ha).fz (Fz.refl _ _))) rb
          · simp only [e, Bool.false_eq_true, if_false] at o
            exact o hc w' σ' H' fz rel'
    · cases h

theorem sameSs_ok : ∀ (ss : List CS) (X : Cx) (Wx : WX) (G : Gd X g M T N sc Wx k) (ow : PassesOwn (model X.prog X.w) X.A X.env X.xe) (fr : X.stack = X.env :: X.outer ∧ X.env.frame = some X.env.locals) (sts : List Stmt), sameSs M N sc ss sts = true → (pf = true → pureSs T.pu ss = true) → PSs X sts (tS g pf Wx (exs T ss))
  | [], X, Wx, G, ow, fr, [], h, hp => s_nil
  | [], X, Wx, G, ow, fr, _ :: _, h, hp => by simp [sameSs] at h
  | _ :: _, X, Wx, G, ow, fr, [], h, hp => by simp [sameSs] at h
  | [s], X, Wx, G, ow, fr, [st], h, hp => by
    rw [sameSs, show pairB [] [] (sameA M N sc s st) = false from rfl, Bool.false_or] at h
    exact s_one (sameS_ok s X Wx G ow fr st (and1 h) fun z => and1 (hp z))
  | [s], X, Wx, G, ow, fr, [st, st2], h, hp => by
    rw [sameSs, show pairB [] [st2] (sameA M N sc s st) = sameA M N sc s st st2 from rfl] at h
    rcases Bool.or_eq_true_iff.mp h with h | h
    · exact sameA_ok s X Wx G st st2 h fun z => and1 (hp z)
    · have := and2 h
      simp [sameSs] at this
  | [s], X, Wx, G, ow, fr, st :: st2 :: st3 :: r, h, hp => by
    rw [sameSs, show pairB [] (st2 :: st3 :: r) (sameA M N sc s st) = false from rfl, Bool.false_or] at h
    have := and2 h
    simp [sameSs] at this
  | s :: s2 :: r, X, Wx, G, ow, fr, [st], h, hp => by
    rw [sameSs, show pairB (s2 :: r) [] (sameA M N sc s st) = false from rfl, Bool.false_or] at h
    have := and2 h
    simp [sameSs] at this
  | s :: s2 :: ss, X, Wx, G, ow, fr, st :: st2 :: sts, h, hp => by
    rw [sameSs, show pairB (s2 :: ss) (st2 :: sts) (sameA M N sc s st) = false from rfl, Bool.false_or] at h
    exact s_seq (sameS_ok s X Wx G ow fr st (and1 h) fun z => and1 (hp z)) (sameSs_ok (s2 :: ss) X Wx G ow fr (st2 :: sts) (and2 h) fun z => and2 (hp z))
end
end
end D

/-! D19: defs. -/
namespace D
open PySem PySem.Spec PyProof.Rows L2

theorem ps_getv : ∀ {ps : List PV} {j : Nat} {p : PV} {m : Nat}, (ps.map Sl.val ++ List.replicate m Sl.un)[j]? = some (.val p) → ps[j]? = some p
  | [], j, p, m, h => by
    simp only [List.map_nil, List.nil_append] at h
    rw [List.getElem?_replicate] at h
    split at h <;> cases h
  | x :: xs, 0, p, m, h => by
    simp at h
    simp [h]
  | x :: xs, j + 1, p, m, h => by
    simp only [List.map_cons, List.cons_append, List.getElem?_cons_succ] at h ⊢
    exact ps_getv h
theorem ps_noown : ∀ {ps : List PV} {j : Nat} {c : Ct} {m : Nat}, (ps.map Sl.val ++ List.replicate m Sl.un)[j]? ≠ some (.own c)
  | [], j, c, m, h => by
    simp only [List.map_nil, List.nil_append] at h
    rw [List.getElem?_replicate] at h
    split at h <;> cases h
  | x :: xs, 0, c, m, h => by simp at h
  | x :: xs, j + 1, c, m, h => by
    simp only [List.map_cons, List.cons_append, List.getElem?_cons_succ] at h
    exact ps_noown h
theorem rel_start {g : Gx} {pf : Bool} {w : Wd} {H : Hp} {W : Om} {vs : List V} {ps : List PV} {N : List Str} (wk : WOk g w W H) (r : Rps g w H vs ps) (m : Nat) (hm : m = N.length - vs.length) :
    Rel g pf w H w (ps.map Sl.val ++ List.replicate m Sl.un) W (L2.start N vs) H where
  wk := wk
  ext := Ext.refl w H
  tr0 := fun _ h => h
  pur := fun _ => Same.refl H
  len := by
    unfold L2.start
    simp only [List.length_append, List.length_map, List.length_replicate, r.length, hm]
  sl := fun i s h => by
    cases s with
    | un => trivial
    | val p =>
      obtain ⟨v, h1, h2⟩ := r.get (ps_getv h)
      refine ⟨v, ?_, h2⟩
      unfold L2.start
      have hi : i < vs.length := (List.getElem?_eq_some_iff.mp h1).1
      rw [List.getElem?_append_left (by simpa using hi), List.getElem?_map, h1]
      rfl
    | own c => exact absurd h ps_noown
  dj := fun i j c d a _ h => absurd h ps_noown
theorem def_ok {P : Program} {w : World} {K : PySem.W.Frag} {mg : Str → Option Value} {base : Heap} {g : Gx} {M : Md} {T : Tb} {k : Nat} {x qual : Str} {params : Arguments} {body : List Stmt} {scope : Scope} {f : Addr} {fd : FuncData} {N ps : List Str} {d : Df} {pu : Bool}
    (F : FunD K x qual params body scope [] [] f fd) (S : FnScope N ps scope) (md : MdOk P w K mg base g M T k) (hs : sameSs M N scope d.body body = true) (hp : pu = true → pureSs T.pu d.body = true) (hnp : d.np = ps.length) (hnn : d.nn = N.length) :
    FnOk P w K mg base (L2.CX P w) (k + 2) f fd ps (spF g (run T d) pu ps.length) := by
  refine F.ok S (fun vs H Q E h => h.1) fun cdv A outer s H vs Q E hr ⟨hl, w0, W, qs, wk, rp, hfn⟩ => ?_
  generalize hX : cxOf (L2.CX P w) P w K mg base N qual scope f cdv A outer s H E = X
  have G : Gd X g M T N scope (fun cls d _ H => E cls d H) k := by
    subst hX
    refine ⟨md, rfl, S.nd, rfl, ⟨fun _ e => e, fun _ e => ⟨e, rfl⟩, fun _ e => .inr e, fun _ e => e, S.kind⟩, hr, takes_of rfl rfl rfl rfl⟩
  have ow : PassesOwn (model X.prog X.w) X.A X.env X.xe := by
    subst hX
    exact passes_of rfl
  have fr : X.stack = X.env :: X.outer ∧ X.env.frame = some X.env.locals := by
    subst hX
    exact ⟨rfl, rfl⟩
  refine ⟨_, sameSs_ok (pf := pu) d.body X _ G ow fr body hs hp, ?_⟩
  refine ⟨w0, H, w0, qs.map Sl.val ++ List.replicate (d.nn - d.np) Sl.un, W, rel_start wk rp _ (by rw [hnn, hnp, hl]), ?_⟩
  unfold run at hfn
  rw [if_pos (by rw [hnp, ← hl, rp.length])] at hfn
  cases q : exs T d.body (qs.map Sl.val ++ List.replicate (d.nn - d.np) Sl.un) W with
  | bad => rw [q] at hfn; exact hfn
  | exc c env W' =>
    rw [q] at hfn
    exact fun hc w' σ' H' _ rel => hfn hc H' w' rel.ext rel.wk rel.pur
  | ok fl env W' =>
    rw [q] at hfn
    cases fl with
    | nx => exact fun w' σ' H' _ rel => hfn .non H' w' rel.ext rel.wk rel.pur rfl .non
    | ret r => exact fun v w' σ' H' rel nb rr => hfn v H' w' rel.ext rel.wk rel.pur nb rr
    | brk => exact hfn.elim
    | cont => exact hfn.elim

/-- the module's names, apart from its defs -/
structure MdS (K : PySem.W.Frag) (mg : Str → Option Value) (g : Gx) (M : Md) : Prop where
  hK : K = g.K
  rng : mg "range" = none
  enum : mg "enumerate" = none
  zip : mg "zip" = none
  fre : ∀ f : BF, mg (bfN f) = none
  set : mg "set" = none
  isi : mg "isinstance" = none
  ty : ∀ t : TY, (∀ c, t ≠ .exc c) → mg (tyS t) = none
  con : ∀ x v, M.con.lookup x = some v → ∃ u y, mg x = some u ∧ RelV y u ∧ ∀ w H, Rp g w H y v
  tup : ∀ x vs, M.tup.lookup x = some vs → ∃ a us, mg x = some (.ref a) ∧ WrT g.K a us ∧ ∀ w H, Rps g w H us vs
  exo : ExOk K mg g M.exc
  cln : g.nc = M.cls.length
  clo : ∀ c, c < g.nc → Cls K (g.cc c)
  cla : ∀ c, c < g.nc → ∀ f, f ∈ M.flds → NoAttr K (g.cc c) f
/-- a def's text -/
structure Tx where
  name : Str
  N : List Str
  params : Arguments
  body : List Stmt
  scope : Scope
  d : Df
  cl : Option Nat
  own : Str
def Tx.at_ (t : Tx) : Str × Option Str := match t.cl with
  | none => (t.name, none)
  | some _ => (t.own, some t.name)
def Tx.qual (t : Tx) : Str := match t.cl with
  | none => t.name
  | some _ => t.own ++ "." ++ t.name
/-- where a def stands: by its name, or as a class's method -/
def StOk (K : PySem.W.Frag) (mg : Str → Option Value) (g : Gx) (M : Md) (t : Tx) (a : Addr) : Prop := match t.cl with
  | none => mg t.name = some (.ref a)
  | some c => c < g.nc ∧ (t.name ≠ ("__init__" : Str) → Meth K (g.cc c) t.name a) ∧ (t.name = ("__init__" : Str) → Mk K (g.cc c) a ∧ ∀ x, M.cls[c]? = some x → mg x = some (.ref (g.cc c)))
/-- a def stands, and is the same text -/
structure TxOk (K : PySem.W.Frag) (mg : Str → Option Value) (g : Gx) (M : Md) (pu : Nat → Bool) (f : Nat) (t : Tx) : Prop where
  ps : ∃ ps, FnScope t.N ps t.scope ∧ t.d.np = ps.length ∧ ∃ a fd, FunD K t.name t.qual t.params t.body t.scope [] [] a fd ∧ StOk K mg g M t a ∧ Binds K fd ps []
  nn : t.d.nn = t.N.length
  same : sameSs M t.N t.scope t.d.body t.body = true
  pure : pu f = true → pureSs pu t.d.body = true
def dsOf (ts : List Tx) (f : Nat) : Option Df := match ts[f]? with
  | some t => some t.d
  | none => none
theorem tb_run {ts : List Tx} {pu : Nat → Bool} {n f : Nat} {t : Tx} (h : ts[f]? = some t) : (tb (dsOf ts) pu (n + 1)).fn f = run (tb (dsOf ts) pu n) t.d := by
  have e1 : dsOf ts f = some t.d := by unfold dsOf; rw [h]
  show (match dsOf ts f with | some d => run (tb (dsOf ts) pu n) d | none => fun _ _ => .bad) = _
  rw [e1]
theorem tb_pu {ds : Nat → Option Df} {pu : Nat → Bool} (n : Nat) : (tb ds pu n).pu = pu := by cases n <;> rfl
theorem tb_fn {P : Program} {w : World} {K : PySem.W.Frag} {mg : Str → Option Value} {base : Heap} {g : Gx} {M : Md} {pu : Nat → Bool} {ts : List Tx} {n : Nat} (h : n = 0 ∨ ∃ m, n = m + 1 ∧ MdOk P w K mg base g M (tb (dsOf ts) pu m) (2 * m)) {f : Nat} {t : Tx} (q : ts[f]? = some t) (ok : TxOk K mg g M pu f t) {ps : List Str} (S : FnScope t.N ps t.scope) (hnp : t.d.np = ps.length) {a : Addr} {fd : FuncData}
    (F : FunD K t.name t.qual t.params t.body t.scope [] [] a fd) : FnOk P w K mg base (L2.CX P w) (2 * n) a fd ps (spF g ((tb (dsOf ts) pu n).fn f) ((tb (dsOf ts) pu n).pu f) ps.length) := by
  rcases h with rfl | ⟨m, rfl, ih⟩
  · exact ⟨fun vs H Q E h => h.1, fun A outer s H args us vs Q E _ _ _ _ h => by
      obtain ⟨_, _, _, _, _, _, z⟩ := h
      exact False.elim z⟩
  · rw [tb_run q, tb_pu]
    exact def_ok F S ih ok.same (fun z => by rw [tb_pu]; exact ok.pure z) hnp ok.nn
theorem tb_ok {P : Program} {w : World} {K : PySem.W.Frag} {mg : Str → Option Value} {base : Heap} {g : Gx} {M : Md} {pu : Nat → Bool} {ts : List Tx} (m : MdS K mg g M) (hM : M.fns = ts.map fun t => (t.name, t.d.np, t.cl)) (hT : ∀ f t, ts[f]? = some t → TxOk K mg g M pu f t) (n : Nat) :
    MdOk P w K mg base g M (tb (dsOf ts) pu n) (2 * n) := by
  have key : ∀ n, (n = 0 ∨ ∃ m, n = m + 1 ∧ MdOk P w K mg base g M (tb (dsOf ts) pu m) (2 * m)) → MdOk P w K mg base g M (tb (dsOf ts) pu n) (2 * n) := fun n ih => by
    refine ⟨m.hK, m.rng, m.enum, m.zip, m.fre, m.set, m.isi, m.ty, m.con, m.tup, m.exo, m.cln, m.clo, m.cla, fun f x np c h => ?_, fun f x np h => ?_⟩
    · rw [hM, List.getElem?_map] at h
      cases q : ts[f]? with
      | none => rw [q] at h; cases h
      | some t =>
      rw [q] at h
      simp only [Option.map_some, Option.some.injEq, Prod.mk.injEq] at h
      obtain ⟨rfl, rfl, hc⟩ := h
      have ok := hT f t q
      obtain ⟨ps, S, hnp, a, fd, F, hm, hb⟩ := ok.ps
      unfold StOk at hm
      rw [hc] at hm
      exact ⟨hm.1, a, fd, ps, hnp.symm, hb, tb_fn ih q ok S hnp F, hm.2.1, hm.2.2⟩
    · rw [hM, List.getElem?_map] at h
      cases q : ts[f]? with
      | none => rw [q] at h; cases h
      | some t =>
      rw [q] at h
      simp only [Option.map_some, Option.some.injEq, Prod.mk.injEq] at h
      obtain ⟨rfl, rfl, hc⟩ := h
      have ok := hT f t q
      obtain ⟨ps, S, hnp, a, fd, F, hm, hb⟩ := ok.ps
      unfold StOk at hm
      rw [hc] at hm
      exact ⟨a, fd, ps, hnp.symm, hm, F.kp, hb, tb_fn ih q ok S hnp F⟩
  induction n with
  | zero => exact key 0 (.inl rfl)
  | succ n ih => exact key (n + 1) (.inr ⟨n, rfl, ih⟩)
end D

/-! D20: a law's head and end. -/
namespace D
open PySem PySem.Spec PyProof.Rows L2

/-! ### what the kernel checks of the text -/
def nodupS : List Str → Bool
  | [] => true
  | x :: xs => !(xs.any fun y => eqS x y) && nodupS xs
theorem nodupS_ok : ∀ {l : List Str}, nodupS l = true → l.Nodup
  | [], _ => List.nodup_nil
  | x :: xs, h => by
    simp only [nodupS] at h
    refine List.nodup_cons.mpr ⟨fun hm => ?_, nodupS_ok (and2 h)⟩
    have h1 := and1 h
    rw [List.any_eq_true.mpr ⟨x, hm, decide_eq_true rfl⟩] at h1
    cases h1
def fnScB (N : List Str) (np : Nat) (sc : Scope) : Bool :=
  (match sc.kind with | .function => true | _ => false) && (!sc.isCoroutine && (!sc.isGenerator && (nodupS N && (decide (np ≤ N.length) &&
    ((N.take np).all (fun x => match sc.names.lookup x with | some .local => true | some .cell => true | _ => false) && sc.names.all (fun y => match y.2 with | .free => false | _ => true))))))
theorem fnScB_ok {N : List Str} {np : Nat} {sc : Scope} (h : fnScB N np sc = true) : FnScope N (N.take np) sc ∧ (N.take np).length = np := by
  unfold fnScB at h
  have hl : (N.take np).length = np := by
    have := of_decide_eq_true (and1 (and2 (and2 (and2 (and2 h)))))
    rw [List.length_take]
    omega
  refine ⟨⟨?_, ?_, ?_, nodupS_ok (and1 (and2 (and2 (and2 h)))), by rw [hl], fun x hx => ?_, fun y hy z => ?_⟩, hl⟩
  · have h1 := and1 h
    split at h1
    · rename_i e; exact e
    · cases h1
  · simpa using and1 (and2 h)
  · simpa using and1 (and2 (and2 h))
  · have h1 := List.all_eq_true.mp (and1 (and2 (and2 (and2 (and2 (and2 h)))))) x hx
    split at h1
    · rename_i e; exact .inl e
    · rename_i e; exact .inr e
    · cases h1
  · have h1 := List.all_eq_true.mp (and2 (and2 (and2 (and2 (and2 (and2 h)))))) y hy
    rw [z] at h1
    cases h1
def txB (M : Md) (pu : Nat → Bool) : Nat → List Tx → Bool
  | _, [] => true
  | f, t :: ts => (fnScB t.N t.d.np t.scope && (decide (t.d.nn = t.N.length) && (sameSs M t.N t.scope t.d.body t.body && (!(pu f) || pureSs pu t.d.body)))) && txB M pu (f + 1) ts
structure TxB (M : Md) (pu : Nat → Bool) (f : Nat) (t : Tx) : Prop where
  sc : fnScB t.N t.d.np t.scope = true
  nn : t.d.nn = t.N.length
  same : sameSs M t.N t.scope t.d.body t.body = true
  pure : pu f = true → pureSs pu t.d.body = true
theorem txB_ok {M : Md} {pu : Nat → Bool} : ∀ {k : Nat} {ts : List Tx}, txB M pu k ts = true → ∀ f t, ts[f]? = some t → TxB M pu (k + f) t
  | _, [], _, f, t, e => by simp at e
  | k, t0 :: ts, h, 0, t, e => by
    simp only [txB] at h
    simp at e
    subst e
    have h1 := and1 h
    refine ⟨and1 h1, of_decide_eq_true (and1 (and2 h1)), and1 (and2 (and2 h1)), fun z => ?_⟩
    have h2 := and2 (and2 (and2 h1))
    rw [Nat.add_zero] at z
    rw [z] at h2
    simpa using h2
  | k, t0 :: ts, h, f + 1, t, e => by
    simp only [txB] at h
    have := txB_ok (and2 h) f t (by simpa using e)
    rw [show k + (f + 1) = k + 1 + f from by omega]
    exact this
theorem txB_app {M : Md} {pu : Nat → Bool} : ∀ {k : Nat} {ts us : List Tx}, txB M pu k ts = true → txB M pu (k + ts.length) us = true → txB M pu k (ts ++ us) = true
  | _, [], _, _, h => by simpa using h
  | k, t :: ts, us, h, h2 => by
    simp only [txB] at h
    rw [List.cons_append, txB, and1 h, Bool.true_and]
    exact txB_app (and2 h) (by rw [show k + 1 + ts.length = k + (t :: ts).length from by simp; omega]; exact h2)
/-- a def takes its arguments -/
structure Bd (t : Tx) : Prop where
  h : ∀ (kV doc pm : Value) (an : Option Addr) (cdv ct : Value) (us : List Value), us.length = (t.N.take t.d.np).length → bindArgs (PySem.W.fnOf t.name t.qual t.params t.body t.scope .none kV doc pm an cdv ct) ⟨us, []⟩ = pure ((t.N.take t.d.np).zip us)
inductive AllT (p : Tx → Prop) : List Tx → Prop
  | nil : AllT p []
  | cons {t : Tx} {ts : List Tx} (h : p t) (tl : AllT p ts) : AllT p (t :: ts)
theorem AllT.get {p : Tx → Prop} : ∀ {ts : List Tx} {f : Nat} {t : Tx}, AllT p ts → ts[f]? = some t → p t
  | _, _, _, .nil, e => by simp at e
  | _, 0, _, .cons h _, e => by simp at e; subst e; exact h
  | _, f + 1, t, .cons _ tl, e => AllT.get (f := f) tl (by simpa using e)
theorem AllT.app {p : Tx → Prop} : ∀ {ts us : List Tx}, AllT p ts → AllT p us → AllT p (ts ++ us)
  | _, _, .nil, h => h
  | _, _, .cons h tl, h2 => .cons h (tl.app h2)

/-! ### the head's facts -/
def frees : List Str := (["range", "enumerate", "zip", "len", "all", "any", "list", "tuple"] : List Str) ++ (["max", "sum", "int", "str", "sorted", "lenset", "set", "isinstance", "bool", "dict", "ValueError"] : List Str)
def conF : Str × PV → He.Fa
  | (x, .int i) => .int x i
  | (x, .str z) => .str x z
  | (x, _) => .code (x, none) x
def dfD (t : Tx) : He.DefD := ⟨t.at_, t.name, t.qual, t.params, t.body, t.scope, [], []⟩
def factT (t : Tx) : He.Fa := match t.cl with
  | none => .glo t.name
  | some _ => if t.name = "__init__" then .mkr t.own else .meth t.own t.name
def clsF (M : Md) : List He.Fa := M.cls.map .glo ++ (M.cls.map .cls ++ M.cls.flatMap fun x => M.flds.map fun f => .noat x f)
def facts (M : Md) (ts : List Tx) : List He.Fa := ts.map factT ++ (frees.map .free ++ (M.con.map conF ++ (M.tup.map (fun p => .glo p.1) ++ (M.exc.map .glo ++ clsF M))))
def dvOf : PV → Option He.Dv
  | .int i => some (.int i)
  | .str x => some (.str x)
  | _ => none
def tupF (K : PySem.W.Frag) (p : Str × List PV) : Bool := (p.2.all fun v => (match v with | .int _ => true | .str x => okS x | _ => false)) && He.tupB K p.1 (p.2.filterMap dvOf)
def conOk (p : Str × PV) : Bool := match p.2 with | .int _ => true | .str x => okS x | _ => false
/-- what is looked at of the exceptions' classes -/
def exc1 (K : PySem.W.Frag) (x : Str) : Bool :=
  (He.Fa.exc x).ok K && (decide (PySem.W.findIn K (.ref (He.ga K x)) "__getattribute__" = some (some (.builtin "BaseException.__getattribute__"))) && (decide (PySem.W.findIn K (.ref (He.ga K x)) "__getattr__" = some none) &&
    (PySem.W.hasDictIn K (He.ga K x) && (decide (PySem.W.findIn K (.ref (He.ga K x)) "__class__" = some (some (.builtin "object.__class__"))) && (decide (PySem.W.mroIn K (He.ga K x) (.type "object") = some true) &&
      decide (PySem.W.kitOne K (.ref (He.ga K x)) (.type "ValueError") = some true))))))
def exc2 (K : PySem.W.Frag) (c d : Nat) (x y : Str) : Bool :=
  decide (PySem.W.exmOne K (.ref (He.ga K x)) (.ref (He.ga K y)) = some (esub c d)) && decide (PySem.W.kitOne K (.ref (He.ga K x)) (.ref (He.ga K y)) = some (esub c d))
def excX (xs : List Str) (c : Nat) : Str := xs.getD c ""
def excF (K : PySem.W.Frag) (xs : List Str) : Bool :=
  (match xs with
    | [] => true
    | _ => decide (PySem.W.specialIn K (.builtin "object.__class__") "__get__" = some (some (.builtin "getset_descriptor.__get__"))) && decide (PySem.W.takesIn K (.builtin "object.__class__") = some true)) &&
  (List.range xs.length).all fun c => exc1 K (excX xs c) && (List.range xs.length).all fun d => exc2 K c d (excX xs c) (excX xs d)
def gOf (K : PySem.W.Frag) (M : Md) : Gx := ⟨K, fun c => He.ga K (excX M.exc c), M.exc.length, fun c => He.ga K (excX M.cls c), M.cls.length⟩
abbrev AlX : Type := Bool × He.AlD
def obsX (M : Md) (ts : List Tx) (K : PySem.W.Frag) : AlX := ((M.tup.all (tupF K) && (M.con.all conOk && excF K M.exc)), He.obsD (facts M ts) (ts.map dfD) K)
def obsXG (n : Nat) (M : Md) (ts : List Tx) (g : Addr → Option Obj) : AlX := obsX M ts (He.frG g (He.asD g n))
def SaysX (M : Md) (ts : List Tx) (K : PySem.W.Frag) : Prop := obsX M ts K = (true, He.valD (ts.map dfD))
def hookX (n : Nat) (M : Md) (ts : List Tx) : PySem.W.Hook where
  α := AlX
  obs := fun s => obsXG n M ts s.heap.get?
  val := fun _ => (true, He.valD (ts.map dfD))
  says := fun _ h => ∃ K : PySem.W.Frag, K.In h ∧ SaysX M ts K
  of := fun _ _ e => ⟨_, He.frG_in, e⟩
  keeps := fun _ _ _ ⟨K, hK, c⟩ k => ⟨K, PySem.W.Frag.In.keeps hK k, c⟩
theorem obsXG_eq {n : Nat} {M : Md} {ts : List Tx} {g : Addr → Option Obj} {s : Shared} (h : ∀ a, g a = s.heap.get? a) : obsXG n M ts g = (hookX n M ts).obs s := by
  have e : g = s.heap.get? := funext h
  rw [e] <;> rfl
section
variable {M : Md} {ts : List Tx} {K : PySem.W.Frag} {h : Heap} {mg : Str → Option Value} {g : Gx}
theorem SaysX.d (c : SaysX M ts K) : He.SaysD (facts M ts) (ts.map dfD) K := congrArg (fun z : AlX => z.2) c
theorem SaysX.fa (c : SaysX M ts K) {f : He.Fa} (hf : f ∈ facts M ts) : f.ok K = true := by
  obtain ⟨i, hi⟩ := List.mem_iff_getElem?.mp hf
  exact c.d.fact i hi
theorem mem_con {p : Str × PV} (hp : p ∈ M.con) : conF p ∈ facts M ts := by
  unfold facts
  exact List.mem_append_right _ (List.mem_append_right _ (List.mem_append_left _ (List.mem_map.mpr ⟨p, hp, rfl⟩)))
theorem mem_cls {f : He.Fa} (h : f ∈ clsF M) : f ∈ facts M ts := by
  unfold facts
  exact List.mem_append_right _ (List.mem_append_right _ (List.mem_append_right _ (List.mem_append_right _ (List.mem_append_right _ h))))
theorem cls_at {xs : List Str} {i : Nat} (hi : i < xs.length) : xs[i]? = some (excX xs i) := by
  unfold excX
  rw [List.getD_eq_getElem?_getD, List.getElem?_eq_getElem hi]
  rfl
theorem SaysX.free (c : SaysX M ts K) (X : K.In h) (G : h.Ns mainGlobals mg) {x : Str} (hx : x ∈ frees) : mg x = none :=
  He.free_ok X G (c.fa (f := .free x) (by
    unfold facts
    exact List.mem_append_right _ (List.mem_append_left _ (List.mem_map.mpr ⟨x, hx, rfl⟩))))
theorem lookup_mem {α : Type} : ∀ {l : List (Str × α)} {x : Str} {v : α}, l.lookup x = some v → (x, v) ∈ l
  | [], _, _, h => by simp at h
  | (y, w) :: l, x, v, h => by
    rw [List.lookup_cons] at h
    split at h
    · rename_i e
      cases h
      rw [eq_of_beq e]
      exact List.mem_cons_self
    · exact List.mem_cons_of_mem _ (lookup_mem h)
theorem dv_rps {w : Wd} {H : Hp} : ∀ {vs : List PV}, (vs.all fun v => (match v with | .int _ => true | .str x => okS x | _ => false)) = true → Rps g w H ((vs.filterMap dvOf).map (He.Dv.v K)) vs
  | [], _ => .nil
  | v :: vs, h => by
    rw [List.all_cons] at h
    have ih := dv_rps (w := w) (H := H) (and2 h)
    have h1 := and1 h
    cases v with
    | int i => exact .cons (.int i) ih
    | str x => exact .cons (.str x h1) ih
    | _ => cases h1
theorem mds_ok (c : SaysX M ts K) (he : g = gOf K M) (hg : K = g.K) (X : K.In h) (G : h.Ns mainGlobals mg) : MdS K mg g M where
  hK := hg
  rng := c.free X G (by decide +kernel)
  enum := c.free X G (by decide +kernel)
  zip := c.free X G (by decide +kernel)
  fre := fun f => c.free X G (by cases f <;> decide +kernel)
  set := c.free X G (by decide +kernel)
  isi := c.free X G (by decide +kernel)
  ty := fun t ht => c.free X G (by
    cases t with
    | exc d => exact absurd rfl (ht d)
    | _ => decide +kernel)
  con := fun x v hl => by
    have hm := lookup_mem hl
    have hk : conOk (x, v) = true := by
      have h1 := and1 (and2 (show (M.tup.all (tupF K) && (M.con.all conOk && excF K M.exc)) = true from congrArg (fun z : AlX => z.1) c))
      exact List.all_eq_true.mp h1 _ hm
    have hf := c.fa (mem_con (ts := ts) hm)
    cases v with
    | int i =>
      obtain ⟨t, e⟩ := He.int_ok X G hf
      exact ⟨_, .int i, e, ⟨t, rfl⟩, fun _ _ => .int i⟩
    | str z =>
      obtain ⟨t, e⟩ := He.str_ok X G hf
      exact ⟨_, .str z, e, ⟨t, rfl⟩, fun _ _ => .str z hk⟩
    | _ => cases hk
  tup := fun x vs hl => by
    have hm := lookup_mem hl
    have hk : tupF K (x, vs) = true := by
      have h1 := and1 (show (M.tup.all (tupF K) && (M.con.all conOk && excF K M.exc)) = true from congrArg (fun z : AlX => z.1) c)
      exact List.all_eq_true.mp h1 _ hm
    have hf := c.fa (f := .glo x) (by
      unfold facts
      exact List.mem_append_right _ (List.mem_append_right _ (List.mem_append_right _ (List.mem_append_left _ (List.mem_map.mpr ⟨_, hm, rfl⟩)))))
    refine ⟨He.ga K x, (vs.filterMap dvOf).map (He.Dv.v K), He.glo_ok X G hf, ?_, fun w H => dv_rps (and1 hk)⟩
    rcases He.tupB_ok (and2 hk) (fun _ => none) with q | q
    · rcases q with q | ⟨_, q⟩ <;> cases q
    · rw [← hg]
      exact q
  exo := by
    subst he
    have h1 := and2 (and2 (show (M.tup.all (tupF K) && (M.con.all conOk && excF K M.exc)) = true from congrArg (fun z : AlX => z.1) c))
    have h2 := and2 h1
    have at1 : ∀ i, i < M.exc.length → exc1 K (excX M.exc i) = true := fun i hi => and1 (List.all_eq_true.mp h2 i (List.mem_range.mpr hi))
    have at2 : ∀ i j, i < M.exc.length → j < M.exc.length → exc2 K i j (excX M.exc i) (excX M.exc j) = true := fun i j hi hj => List.all_eq_true.mp (and2 (List.all_eq_true.mp h2 i (List.mem_range.mpr hi))) j (List.mem_range.mpr hj)
    refine ⟨rfl, fun i x hx => ?_, fun i hi => ?_, fun i hi => ?_, fun i hi => ?_, fun i hi => ?_, fun i j hi hj => ?_, fun i hi => ?_, c.free X G (by decide +kernel)⟩
    · have e : excX M.exc i = x := by unfold excX; rw [List.getD_eq_getElem?_getD, hx]; rfl
      show mg x = some (.ref (He.ga K (excX M.exc i)))
      rw [e]
      refine He.glo_ok X G (c.fa (f := .glo x) ?_)
      unfold facts
      exact List.mem_append_right _ (List.mem_append_right _ (List.mem_append_right _ (List.mem_append_right _ (List.mem_append_left _ (List.mem_map.mpr ⟨x, List.mem_of_getElem? hx, rfl⟩)))))
    · exact (He.exc_ok (and1 (at1 i hi))).2.1
    · exact (He.exc_ok (and1 (at1 i hi))).1
    · exact (He.exc_ok (and1 (at1 i hi))).2.2
    · have a := at1 i hi
      have b := and2 a
      have d := and2 b
      have e := and2 d
      have f := and2 e
      have ne : M.exc ≠ [] := fun z => by
        have hi' : i < M.exc.length := hi
        rw [z] at hi'
        exact absurd hi' (Nat.not_lt_zero i)
      have sp := and1 h1
      have sp2 : (decide (PySem.W.specialIn K (.builtin "object.__class__") "__get__" = some (some (.builtin "getset_descriptor.__get__"))) && decide (PySem.W.takesIn K (.builtin "object.__class__") = some true)) = true := by
        split at sp
        · rename_i z; exact absurd z ne
        · exact sp
      exact ⟨of_decide_eq_true (and1 b), of_decide_eq_true (and1 d), (He.exc_ok (and1 a)).2.2.1, and1 e, of_decide_eq_true (and1 f), of_decide_eq_true (and1 sp2), of_decide_eq_true (and2 sp2), of_decide_eq_true (and1 (and2 f))⟩
    · have a := at2 i j hi hj
      exact ⟨of_decide_eq_true (and1 a), of_decide_eq_true (and2 a)⟩
    · exact of_decide_eq_true (and2 (and2 (and2 (and2 (and2 (and2 (at1 i hi)))))))
  cln := by subst he; rfl
  clo := fun i hi => by
    subst he
    have hx : M.cls[i]? = some (excX M.cls i) := cls_at hi
    refine He.cls_ok (c.fa (f := .cls (excX M.cls i)) (mem_cls (List.mem_append_right _ (List.mem_append_left _ (List.mem_map.mpr ⟨_, List.mem_of_getElem? hx, rfl⟩)))))
  cla := fun i hi f hf => by
    subst he
    have hx : M.cls[i]? = some (excX M.cls i) := cls_at hi
    exact He.noat_ok (c.fa (f := .noat (excX M.cls i) f) (mem_cls (List.mem_append_right _ (List.mem_append_right _ (List.mem_flatMap.mpr ⟨_, List.mem_of_getElem? hx, List.mem_map.mpr ⟨f, hf, rfl⟩⟩)))))
/-- a method's class -/
def clB (M : Md) (t : Tx) : Bool := match t.cl with
  | none => true
  | some c => (match M.cls[c]? with
    | some x => eqS x t.own
    | none => false)
theorem txs_ok (c : SaysX M ts K) (X : K.In h) (G : h.Ns mainGlobals mg) {pu : Nat → Bool} (hB : txB M pu 0 ts = true) (hb : AllT Bd ts) (hC : (ts.all (clB M)) = true) : ∀ f t, ts[f]? = some t → TxOk K mg (gOf K M) M pu f t := fun f t e => by
  have b := txB_ok hB f t e
  rw [Nat.zero_add] at b
  obtain ⟨S, hl⟩ := fnScB_ok b.sc
  obtain ⟨fd, F⟩ := c.d.def_ f (d := dfD t) (by rw [List.getElem?_map, e]; rfl)
  have hft : (factT t).ok K = true := c.fa (by
    unfold facts
    exact List.mem_append_left _ (List.mem_map.mpr ⟨t, List.mem_of_getElem? e, rfl⟩))
  refine ⟨⟨t.N.take t.d.np, S, hl.symm, He.fAd K t.at_, fd, F, ?_, FunD.bindsN F fun kV doc pm an cdv ct us hl => (hb.get e).h kV doc pm an cdv ct us hl⟩, b.nn, b.same, b.pure⟩
  have hc := List.all_eq_true.mp hC t (List.mem_of_getElem? e)
  unfold StOk Tx.at_
  unfold factT at hft
  unfold clB at hc
  cases hcl : t.cl with
  | none =>
    rw [hcl] at hft
    exact He.glo_ok X G hft
  | some k =>
    rw [hcl] at hft hc
    simp only at hft hc
    split at hc
    case h_2 => cases hc
    rename_i x hx
    cases eqS_ok hc
    have hk : k < M.cls.length := (List.getElem?_eq_some_iff.mp hx).1
    have ex : excX M.cls k = t.own := by
      have := cls_at hk
      rw [hx] at this
      exact (Option.some.inj this).symm
    have ecc : (gOf K M).cc k = He.ga K t.own := by show He.ga K (excX M.cls k) = _; rw [ex]
    refine ⟨hk, fun hne => ?_, fun he => ⟨?_, fun y hy => ?_⟩⟩
    · rw [if_neg hne] at hft
      rw [ecc]
      exact He.meth_ok hft
    · rw [if_pos he] at hft
      rw [ecc, he]
      exact He.mkr_ok hft
    · rw [hx] at hy
      cases hy
      rw [ecc]
      exact He.glo_ok X G (c.fa (f := .glo t.own) (mem_cls (List.mem_append_left _ (List.mem_map.mpr ⟨_, List.mem_of_getElem? hx, rfl⟩))))
end
/-- the law's own promise -/
def spL (g : Gx) (fn : Fn) : Sp := spF g fn true 1
theorem law_end {P : Program} {w : World} {M : Md} {ts : List Tx} {pu : Nat → Bool} {K : PySem.W.Frag} {h : Heap} {mg : Str → Option Value} {fa : Addr} {n : Nat} {f : Nat} {t : Tx} (c : SaysX M ts K) (X : K.In h) (G : h.Ns mainGlobals mg) (hB : txB M pu 0 ts = true) (hb : AllT Bd ts) (hC : (ts.all (clB M)) = true)
    (hM : M.fns = ts.map fun t => (t.name, t.d.np, t.cl)) (he : ts[f]? = some t) (hcl : t.cl = none) (hnp : t.d.np = 1) (hN : t.N.take 1 = [("_law_script" : Str)]) (hm : mg t.name = some (.ref fa))
    (law : ∀ ns : List Int, ns.length ≤ 63 → ∃ W', (tb (dsOf ts) pu (n + 1)).fn f [.scr ns] [] = .ok (.val (.bl true)) W') :
    ∃ (fd : FuncData) (sp : Sp), (∀ (s : Shared) (u : Value), BindsTo s fd ⟨[u], []⟩ [("_law_script", u)]) ∧
      (∀ (H : Hp) (a : Addr) (ns : List Int), ns.length ≤ 63 → Only H → SqL K H a (ns.map V.int) → sp [.ref a] H (fun v _ => v = .bl true) fun _ _ _ => False) ∧
      ∀ base : Heap, K.In base → base.Ns mainGlobals mg → FnOk P w K mg base (L2.CX P w) (2 * (n + 1)) fa fd [("_law_script" : Str)] sp := by
  have m := mds_ok (g := gOf K M) c rfl rfl X G
  have hT := txs_ok c X G hB hb hC
  obtain ⟨ps, S, hnp', a, fd, F, hm', hbd⟩ := (hT f t he).ps
  have ea : a = fa := by
    unfold StOk at hm'
    rw [hcl] at hm'
    simp only at hm'
    rw [hm] at hm'
    cases hm'
    rfl
  subst ea
  have eps : ps = [("_law_script" : Str)] := by
    have h1 := S.pre
    rw [← hnp', hnp, hN] at h1
    exact h1.symm
  subst eps
  refine ⟨fd, spF (gOf K M) ((tb (dsOf ts) pu (n + 1)).fn f) (pu f) 1, fun s u => ?_, fun H a ns hl hO hS => ?_, fun base hK hG => ?_⟩
  · obtain ⟨S2, hl2⟩ := fnScB_ok (txB_ok hB f t he).sc
    have e1 : t.N.take t.d.np = [("_law_script" : Str)] := by rw [hnp]; exact hN
    have := FunD.bindsA (ps := [("_law_script" : Str)]) F (fun kV doc pm an cdv ct us hl => by
      have := (hb.get he).h kV doc pm an cdv ct us (by rw [e1]; exact hl)
      rw [e1] at this
      exact this) s [u] rfl
    exact this
  · refine ⟨rfl, ⟨[], fun b => H b ≠ none, fun b => H b ≠ none⟩, [], [.scr ns], ⟨fun _ h => h, fun b hb => Option.ne_none_iff_exists'.mp hb, rfl, fun n m a h => by simp at h, fun n a o h => by simp at h, fun n f n' f' b ⟨a, o, C, dx, l, ct, h1, _⟩ => by simp at h1⟩, .cons (.scr ?_) .nil, ?_⟩
    · rcases hS with hS | hS
      · refine .inl ⟨?_, hS⟩
        rcases hS with hS | ⟨o, hS⟩ <;> · show H a ≠ none; rw [hS]; exact fun z => nomatch z
      · exact .inr hS
    · obtain ⟨W', e⟩ := law ns hl
      rw [e]
      intro v H' w' _ _ _ _ rr
      exact rr_bl (H := H) rr
  · have e : (tb (dsOf ts) pu (n + 1)).fn f = run (tb (dsOf ts) pu n) t.d := by
      have e1 : dsOf ts f = some t.d := by unfold dsOf; rw [he]
      show (match dsOf ts f with | some d => run (tb (dsOf ts) pu n) d | none => fun _ _ => .bad) = _
      rw [e1]
    rw [e]
    exact def_ok F S (tb_ok (P := P) (w := w) (base := base) (pu := pu) m hM hT n) (hT f t he).same (fun z => by rw [tb_pu]; exact (hT f t he).pure z) hnp' (hT f t he).nn
/-- let out by some world -/
def CXA (P : Program) : CXT := fun outer H s E u s' => ∃ w, L2.CX P w outer H s E u s'
theorem fn_cxa {P : Program} {w : World} {K : PySem.W.Frag} {mg : Str → Option Value} {base : Heap} {k : Nat} {f : Addr} {fd : FuncData} {ps : List Str} {sp : Sp} (F : FnOk P w K mg base (L2.CX P w) k f fd ps sp) : FnOk P w K mg base (CXA P) k f fd ps sp :=
  ⟨F.len, fun A outer s H args us vs Q E hr he hb hv hs => codeAny_mono (F.run A outer s H args us vs Q E hr he hb hv hs) fun r s' h => by
    cases r with
    | error e => exact ⟨w, h⟩
    | ok fl => cases fl <;> exact h⟩
theorem cxa_none {P : Program} {H : Hp} {s : Shared} {e : Value} {s' : Shared} (h : CXA P [] H s (fun _ _ _ => False) e s') : False := by
  obtain ⟨w, _, _, _, _, _, _, _, _, _, _, _, _, z⟩ := h
  exact z
theorem Bd.of {t : Tx} (ps : List Str) (e : t.N.take t.d.np = ps) (h : ∀ (kV doc pm : Value) (an : Option Addr) (cdv ct : Value) (us : List Value), us.length = ps.length → bindArgs (PySem.W.fnOf t.name t.qual t.params t.body t.scope .none kV doc pm an cdv ct) ⟨us, []⟩ = pure (ps.zip us)) : Bd t := ⟨by rw [e]; exact h⟩
end D

/-! D21: the plain reader computes (rewriting rules). -/
namespace D
open PySem PySem.Spec PyProof.Rows L2

/-! ways on, named (nothing is left to the kernel to find) -/
def tryS (d i j : Nat) (o : SO) : SO := match o with
  | .exc c env' W' => if esub c d then if i < env'.length then .ok .nx (((env'.set i (.val (.exc c))).set j (.val (.exc c))).set i .un) W' else .bad else .exc c env' W'
  | o => o
@[simp] theorem tryS_ok (d i j : Nat) (f : Fl) (e : Ev) (W : Om) : tryS d i j (.ok f e W) = .ok f e W := (rfl)
@[simp] theorem tryS_exc (d i j c : Nat) (env' : Ev) (W' : Om) : tryS d i j (.exc c env' W') = if esub c d then if i < env'.length then .ok .nx (((env'.set i (.val (.exc c))).set j (.val (.exc c))).set i .un) W' else .bad else .exc c env' W' := (rfl)
def seqS (o : SO) (k : S) : SO := match o with | .ok .nx e W => k e W | o => o
@[simp] theorem seqS_nx (e : Ev) (W : Om) (k : S) : seqS (.ok .nx e W) k = k e W := (rfl)
@[simp] theorem seqS_ret (r : R) (e : Ev) (W : Om) (k : S) : seqS (.ok (.ret r) e W) k = .ok (.ret r) e W := (rfl)
@[simp] theorem seqS_brk (e : Ev) (W : Om) (k : S) : seqS (.ok .brk e W) k = .ok .brk e W := (rfl)
@[simp] theorem seqS_cont (e : Ev) (W : Om) (k : S) : seqS (.ok .cont e W) k = .ok .cont e W := (rfl)
@[simp] theorem seqS_exc (c : Nat) (e : Ev) (W : Om) (k : S) : seqS (.exc c e W) k = .exc c e W := (rfl)
def runO (o : SO) : Out R := match o with
  | .ok .nx _ W' => .ok (.val .non) W'
  | .ok (.ret r) _ W' => .ok r W'
  | .exc c _ W' => .exc c W'
  | _ => .bad
@[simp] theorem runO_nx (e : Ev) (W : Om) : runO (.ok .nx e W) = .ok (.val .non) W := (rfl)
@[simp] theorem runO_ret (r : R) (e : Ev) (W : Om) : runO (.ok (.ret r) e W) = .ok r W := (rfl)
@[simp] theorem runO_exc (c : Nat) (e : Ev) (W : Om) : runO (.exc c e W) = .exc c W := (rfl)
def brS (r : R) (a b : SO) : SO := match r with | .val (.bl true) => a | .val (.bl false) => b | _ => .bad
@[simp] theorem brS_t (a b : SO) : brS (.val (.bl true)) a b = a := (rfl)
@[simp] theorem brS_f (a b : SO) : brS (.val (.bl false)) a b = b := (rfl)
theorem brS_d (p : Bool) (a b : SO) : brS (.val (.bl p)) a b = if p = true then a else b := by cases p <;> rfl
def brO {α : Type} (r : R) (a b : Out α) : Out α := match r with | .val (.bl true) => a | .val (.bl false) => b | _ => .bad
@[simp] theorem brO_t {α : Type} (a b : Out α) : brO (.val (.bl true)) a b = a := (rfl)
@[simp] theorem brO_f {α : Type} (a b : Out α) : brO (.val (.bl false)) a b = b := (rfl)
theorem brO_d {α : Type} (p : Bool) (a b : Out α) : brO (.val (.bl p)) a b = if p = true then a else b := by cases p <;> rfl
def optK {α β : Type} (o : Option α) (f : α → Out β) : Out β := match o with | some a => f a | none => .bad
@[simp] theorem optK_some {α β : Type} (a : α) (f : α → Out β) : optK (some a) f = f a := (rfl)
def optS {α : Type} (o : Option α) (f : α → SO) : SO := match o with | some a => f a | none => .bad
@[simp] theorem optS_some {α : Type} (a : α) (f : α → SO) : optS (some a) f = f a := (rfl)
def ownS (r : R) (f : Ct → SO) : SO := match r with | .fre c => f c | _ => .bad
@[simp] theorem ownS_fre (c : Ct) (f : Ct → SO) : ownS (.fre c) f = f c := (rfl)
def slC (o : Option Sl) (f : Ct → SO) : SO := match o with | some (.own c) => f c | _ => .bad
@[simp] theorem slC_own (c : Ct) (f : Ct → SO) : slC (some (.own c)) f = f c := (rfl)
def slL (o : Option Sl) (f : List PV → SO) : SO := match o with | some (.own (.l xs)) => f xs | _ => .bad
@[simp] theorem slL_own (xs : List PV) (f : List PV → SO) : slL (some (.own (.l xs))) f = f xs := (rfl)
def lstS (p : PV) (f : List PV → SO) : SO := match p with | .lst xs => f xs | _ => .bad
@[simp] theorem lstS_lst (xs : List PV) (f : List PV → SO) : lstS (.lst xs) f = f xs := (rfl)
section
variable {T : Tb} {env : Ev} {W W' : Om} {p : Bool}
@[simp] theorem ev_non : ev T .non = evC .non := (rfl)
@[simp] theorem ev_bl (b : Bool) : ev T (.bl b) = evC (.bl b) := (rfl)
@[simp] theorem ev_int (i : Int) : ev T (.int i) = evC (.int i) := (rfl)
@[simp] theorem ev_str (x : Str) : ev T (.str x) = evC (.str x) := (rfl)
@[simp] theorem ev_var (i : Nat) : ev T (.var i) = evVar i := (rfl)
@[simp] theorem ev_glb (x : Str) (v : PV) : ev T (.glb x v) = evC v := (rfl)
@[simp] theorem ev_tup (es : List CE) : ev T (.tup es) = evTup (evl T es) := (rfl)
@[simp] theorem ev_lst (es : List CE) : ev T (.lst es) = evLst (evl T es) := (rfl)
@[simp] theorem ev_op (o : BO) (a b : CE) : ev T (.op o a b) = ev2 (ev T a) (ev T b) (pureE T.pu b) fun x y => binOp o x.look y.look := (rfl)
@[simp] theorem ev_cmp (o : CO) (a b : CE) : ev T (.cmp o a b) = ev2 (ev T a) (ev T b) (pureE T.pu b) (fCmp o) := (rfl)
@[simp] theorem ev_cmp2 (o o' : CO) (a b c : CE) : ev T (.cmp2 o o' a b c) = evCh (ev T a) (ev T b) (ev T c) o o' := (rfl)
@[simp] theorem ev_isN (a : CE) : ev T (.isN a) = ev1 (ev T a) fun x => some (.val (.bl (isNon x))) := (rfl)
@[simp] theorem ev_notN (a : CE) : ev T (.notN a) = ev1 (ev T a) fun x => some (.val (.bl (!isNon x))) := (rfl)
@[simp] theorem ev_isB (b : Bool) (a : CE) : ev T (.isB b a) = ev1 (ev T a) (fIsB b) := (rfl)
@[simp] theorem ev_notB (b : Bool) (a : CE) : ev T (.notB b a) = ev1 (ev T a) (fNotB b) := (rfl)
@[simp] theorem ev_and (es : List CE) : ev T (.and es) = evAnd (evl T es) := (rfl)
@[simp] theorem ev_or (es : List CE) : ev T (.or es) = evOr (evl T es) := (rfl)
@[simp] theorem ev_not (a : CE) : ev T (.not a) = ev1 (ev T a) fNot := (rfl)
@[simp] theorem ev_rev (a : CE) : ev T (.rev a) = ev1 (ev T a) fun x => revV x.look := (rfl)
@[simp] theorem rev_l (xs : List PV) : revV (.lst xs) = some (.fre (.l xs.reverse)) := (rfl)
@[simp] theorem rev_t (xs : List PV) : revV (.tup xs) = some (.val (.tup xs.reverse)) := (rfl)
@[simp] theorem ev_neg (a : CE) : ev T (.neg a) = ev1 (ev T a) fNeg := (rfl)
@[simp] theorem ev_ite (c a b : CE) : ev T (.ite c a b) = evIf (ev T c) (ev T a) (ev T b) := (rfl)
@[simp] theorem ev_idx (a i : CE) : ev T (.idx a i) = ev2 (ev T a) (ev T i) (pureE T.pu i) fun x y => (idxV x.look y.look).map .val := (rfl)
@[simp] theorem ev_slL (a i : CE) : ev T (.slL a i) = ev2 (ev T a) (ev T i) (pureE T.pu i) fun x y => (asInt y.look).bind fun j => sliceV x.look (some j) none := (rfl)
@[simp] theorem ev_slH (a i : CE) : ev T (.slH a i) = ev2 (ev T a) (ev T i) (pureE T.pu i) fun x y => (asInt y.look).bind fun j => sliceV x.look none (some j) := (rfl)
@[simp] theorem ev_slB (a i k : CE) : ev T (.slB a i k) = evSlB (ev T a) (ev T i) (ev T k) (pureE T.pu i && pureE T.pu k) := (rfl)
@[simp] theorem ev_call (f : Nat) (es : List CE) : ev T (.call f es) = evCall (T.fn f) (evl T es) := (rfl)
@[simp] theorem ev_blt (f : BF) (es : List CE) : ev T (.blt f es) = evBlt (bltV f) (evl T es) (pureEs T.pu es) := (rfl)
@[simp] theorem ev_isi (a : CE) (ty : TY) : ev T (.isi a ty) = ev1 (ev T a) fun x => (isiV ty x.look).map fun b => .val (.bl b) := (rfl)
@[simp] theorem ev_inT (ng : Bool) (a : CE) (x : Str) (vs : List PV) : ev T (.inT ng a x vs) = ev1 (ev T a) fun x => (inV x.look (.tup vs)).map fun b => .val (.bl (if ng then !b else b)) := (rfl)
theorem ev_comp (e : CE) (tg : CT) (k : IK) (es c : List CE) (own : List (Str × Nat)) : ev T (.comp e tg k es c own) = evComp (ev T e) tg k (evl T es) (evl T c) (own.map (·.2)) (pureEs T.pu es) (pureE T.pu e && pureEs T.pu c) := (rfl)
@[simp] theorem evl_nil : evl T [] = [] := (rfl)
@[simp] theorem evl_cons (e : CE) (es : List CE) : evl T (e :: es) = ev T e :: evl T es := (rfl)
@[simp] theorem evC_app (v : PV) : evC v env W = .ok (.val v) W := (rfl)
theorem evVar_val {i : Nat} {v : PV} (h : env[i]? = some (.val v)) : evVar i env W = .ok (.val v) W := by unfold evVar; rw [h]
theorem evVar_own {i : Nat} {c : Ct} (h : env[i]? = some (.own c)) : evVar i env W = .ok (.bor c) W := by unfold evVar; rw [h]
@[simp] theorem evVar_0 {v : PV} {e : Ev} : evVar 0 (.val v :: e) W = .ok (.val v) W := (rfl)
@[simp] theorem evVar_0o {c : Ct} {e : Ev} : evVar 0 (.own c :: e) W = .ok (.bor c) W := (rfl)
@[simp] theorem evVar_s {i : Nat} {s : Sl} {e : Ev} : evVar (i + 1) (s :: e) W = evVar i e W := by
  unfold evVar
  rw [List.getElem?_cons_succ]
@[simp] theorem evVar_1 {s : Sl} {e : Ev} : evVar 1 (s :: e) W = evVar 0 e W := (rfl)
@[simp] theorem evVar_2 {s : Sl} {e : Ev} : evVar 2 (s :: e) W = evVar 1 e W := (rfl)
@[simp] theorem evVar_3 {s : Sl} {e : Ev} : evVar 3 (s :: e) W = evVar 2 e W := (rfl)
@[simp] theorem evVar_4 {s : Sl} {e : Ev} : evVar 4 (s :: e) W = evVar 3 e W := (rfl)
@[simp] theorem evVar_5 {s : Sl} {e : Ev} : evVar 5 (s :: e) W = evVar 4 e W := (rfl)
@[simp] theorem evVar_6 {s : Sl} {e : Ev} : evVar 6 (s :: e) W = evVar 5 e W := (rfl)
@[simp] theorem evVar_7 {s : Sl} {e : Ev} : evVar 7 (s :: e) W = evVar 6 e W := (rfl)
@[simp] theorem evVar_8 {s : Sl} {e : Ev} : evVar 8 (s :: e) W = evVar 7 e W := (rfl)
@[simp] theorem evVar_9 {s : Sl} {e : Ev} : evVar 9 (s :: e) W = evVar 8 e W := (rfl)
@[simp] theorem evVar_10 {s : Sl} {e : Ev} : evVar 10 (s :: e) W = evVar 9 e W := (rfl)
@[simp] theorem evVar_11 {s : Sl} {e : Ev} : evVar 11 (s :: e) W = evVar 10 e W := (rfl)
@[simp] theorem evVar_12 {s : Sl} {e : Ev} : evVar 12 (s :: e) W = evVar 11 e W := (rfl)
@[simp] theorem evVar_13 {s : Sl} {e : Ev} : evVar 13 (s :: e) W = evVar 12 e W := (rfl)
@[simp] theorem evVar_14 {s : Sl} {e : Ev} : evVar 14 (s :: e) W = evVar 13 e W := (rfl)
@[simp] theorem evVar_15 {s : Sl} {e : Ev} : evVar 15 (s :: e) W = evVar 14 e W := (rfl)

@[simp] theorem ev1_app (fa : F) (f : R → Option R) : ev1 fa f env W = (fa env W).bind fun x W1 => opt (f x) W1 := (rfl)
@[simp] theorem ev2_app (fa fb : F) (f : R → R → Option R) : ev2 fa fb p f env W = (fa env W).bind fun x W1 => (fb env W1).bind fun y W2 => if x.isB && !p then .bad else opt (f x y) W2 := (rfl)
set_option smartUnfolding false in
@[simp] theorem evCall_app (f : Fn) (fs : List F) : evCall f fs env W = (evs fs env W).bind fun rs W1 => optK (vals? rs) fun vs => f vs W1 := (rfl)
@[simp] theorem evBlt_app (f : List PV → Option R) (fs : List F) : evBlt f fs p env W = (evs fs env W).bind fun rs W1 => if noB rs || p then opt (f (rs.map R.look)) W1 else .bad := (rfl)
@[simp] theorem evs_nil : evs [] env W = .ok [] W := (rfl)
@[simp] theorem evs_cons (f : F) (fs : List F) : evs (f :: fs) env W = (f env W).bind fun r W1 => (evs fs env W1).bind fun rs W2 => .ok (r :: rs) W2 := (rfl)
set_option smartUnfolding false in
@[simp] theorem evTup_app (fs : List F) : evTup fs env W = (evs fs env W).bind fun rs W1 => optK (vals? rs) fun vs => if vs.length ≤ sz then .ok (.val (.tup vs)) W1 else .bad := (rfl)
set_option smartUnfolding false in
@[simp] theorem evLst_app (fs : List F) : evLst fs env W = (evs fs env W).bind fun rs W1 => optK (vals? rs) fun vs => if vs.length ≤ sz then .ok (.fre (.l vs)) W1 else .bad := (rfl)
set_option smartUnfolding false in
@[simp] theorem evIf_app (fc fa fb : F) : evIf fc fa fb env W = (fc env W).bind fun x W1 => brO x (fa env W1) (fb env W1) := (rfl)
@[simp] theorem evAnd_nil : evAnd [] env W = .ok (.val (.bl true)) W := (rfl)
@[simp] theorem evAnd_one (f : F) : evAnd [f] env W = f env W := (rfl)
set_option smartUnfolding false in
@[simp] theorem evAnd_cons (f g : F) (fs : List F) : evAnd (f :: g :: fs) env W = (f env W).bind fun x W1 => brO x (evAnd (g :: fs) env W1) (.ok (.val (.bl false)) W1) := (rfl)
@[simp] theorem evOr_nil : evOr [] env W = .ok (.val (.bl false)) W := (rfl)
@[simp] theorem evOr_one (f : F) : evOr [f] env W = f env W := (rfl)
@[simp] theorem evOr_cons (f g : F) (fs : List F) : evOr (f :: g :: fs) env W = (f env W).bind fun x W1 => brO x (.ok (.val (.bl true)) W1) (evOr (g :: fs) env W1) := by
  show (f env W).bind _ = (f env W).bind _
  congr 1
  funext x W1
  cases x with
  | val v => cases v <;> first | rfl | (rename_i b; cases b <;> rfl)
  | bor c => rfl
  | fre c => rfl
set_option smartUnfolding false in
@[simp] theorem evCh_app (fa fb fc : F) (o o' : CO) : evCh fa fb fc o o' env W = (fa env W).bind fun x W1 => (fb env W1).bind fun y W2 => if x.isB || y.isB then .bad else optK (cmpOp o x.look y.look) fun b => if b = true then (fc env W2).bind fun z W3 => optK (cmpOp o' y.look z.look) fun r => .ok (.val (.bl r)) W3
    else .ok (.val (.bl false)) W2 := by
  show (fa env W).bind _ = (fa env W).bind _
  congr 1
  funext x W1
  congr 1
  funext y W2
  split
  · rfl
  · cases cmpOp o x.look y.look with
    | none => rfl
    | some b => cases b <;> rfl
set_option smartUnfolding false in
@[simp] theorem evSlB_app (fa fb fc : F) : evSlB fa fb fc p env W = (fa env W).bind fun x W1 => (fb env W1).bind fun y W2 => optK (asInt y.look) fun j => (fc env W2).bind fun z W3 => if x.isB && !p then .bad else opt ((asInt z.look).bind fun l => sliceV x.look (some j) (some l)) W3 := (rfl)
@[simp] theorem vals_nil : vals? [] = some [] := (rfl)
@[simp] theorem vals_val (v : PV) (rs : List R) : vals? (.val v :: rs) = (vals? rs).map (v :: ·) := by
  simp only [vals?, R.v_val]
  cases vals? rs <;> rfl
@[simp] theorem vals_fre (c : Ct) (rs : List R) : vals? (.fre c :: rs) = (vals? rs).map (c.pv :: ·) := by
  simp only [vals?, R.v_fre]
  cases vals? rs <;> rfl
@[simp] theorem noB_nil : noB [] = true := (rfl)
@[simp] theorem noB_cons (r : R) (rs : List R) : noB (r :: rs) = (!r.isB && noB rs) := (rfl)
@[simp] theorem pv_l (xs : List PV) : (Ct.l xs).pv = .lst xs := (rfl)
@[simp] theorem pv_k (ks : List Key) (xs : List PV) : (Ct.k ks xs).pv = .dk ks xs := (rfl)
@[simp] theorem pv_t (ks : List (List Key)) (xs : List PV) : (Ct.t ks xs).pv = .dt ks xs := (rfl)

@[simp] theorem fNot_app (b : Bool) : fNot (.val (.bl b)) = some (.val (.bl (!b))) := (rfl)
@[simp] theorem fIsB_app (b c : Bool) : fIsB b (.val (.bl c)) = some (.val (.bl (c == b))) := (rfl)
@[simp] theorem fNotB_app (b c : Bool) : fNotB b (.val (.bl c)) = some (.val (.bl (!(c == b)))) := (rfl)
@[simp] theorem fNeg_app (c : Int) : fNeg (.val (.int c)) = some (.val (.int (-c))) := (rfl)
@[simp] theorem isNon_non : isNon (.val .non) = true := (rfl)
@[simp] theorem isNon_int (i : Int) : isNon (.val (.int i)) = false := (rfl)
@[simp] theorem isNon_str (i : Str) : isNon (.val (.str i)) = false := (rfl)
@[simp] theorem isNon_tup (i : List PV) : isNon (.val (.tup i)) = false := (rfl)
@[simp] theorem isNon_lst (i : List PV) : isNon (.val (.lst i)) = false := (rfl)
@[simp] theorem isNon_bl (i : Bool) : isNon (.val (.bl i)) = false := (rfl)
/-! operators -/
@[simp] theorem b_add (a b : Int) : binOp .add (.int a) (.int b) = some (.val (.int (a + b))) := (rfl)
@[simp] theorem b_sub (a b : Int) : binOp .sub (.int a) (.int b) = some (.val (.int (a - b))) := (rfl)
@[simp] theorem b_adds (x y : Str) : binOp .add (.str x) (.str y) = if x.length + y.length ≤ sz then some (.val (.str (x ++ y))) else none := (rfl)
@[simp] theorem b_addl (x y : List PV) : binOp .add (.lst x) (.lst y) = if x.length + y.length ≤ sz then some (.fre (.l (x ++ y))) else none := (rfl)
@[simp] theorem b_addt (x y : List PV) : binOp .add (.tup x) (.tup y) = if x.length + y.length ≤ sz then some (.val (.tup (x ++ y))) else none := (rfl)
theorem b_mul {a b : Int} (h : small64 a = true ∨ small64 b = true) : binOp .mul (.int a) (.int b) = some (.val (.int (a * b))) := by
  show (if (small64 a || small64 b) = true then _ else _) = _
  rw [if_pos (by simpa using h)]
theorem b_mod {a b : Int} (h : 0 < b) : binOp .mod (.int a) (.int b) = some (.val (.int (a % b))) := by
  show (if 0 < b then _ else _) = _
  rw [if_pos h]
theorem b_fdiv {a b : Int} (h : 0 < b ∧ b < 1073741824) : binOp .fdiv (.int a) (.int b) = some (.val (.int (a / b))) := by
  show (if 0 < b ∧ b < 1073741824 then _ else _) = _
  rw [if_pos h]
@[simp] theorem fCmp_app (o : CO) (x y : R) : fCmp o x y = (cmpOp o x.look y.look).map fun r => .val (.bl r) := (rfl)
@[simp] theorem c_lt (a b : Int) : cmpOp .lt (.int a) (.int b) = some (decide (a < b)) := (rfl)
@[simp] theorem c_le (a b : Int) : cmpOp .le (.int a) (.int b) = some (decide (a ≤ b)) := (rfl)
@[simp] theorem c_gt (a b : Int) : cmpOp .gt (.int a) (.int b) = some (decide (b < a)) := (rfl)
@[simp] theorem c_ge (a b : Int) : cmpOp .ge (.int a) (.int b) = some (decide (b ≤ a)) := (rfl)
@[simp] theorem c_in (a b : PV) : cmpOp .isin a b = inV a b := by cases a <;> cases b <;> rfl
@[simp] theorem c_notin (a b : PV) : cmpOp .notin a b = (inV a b).map fun r => !r := by
  have : cmpOp .notin a b = match inV a b with | some r => some (!r) | none => none := by cases a <;> cases b <;> rfl
  rw [this]
  cases inV a b <;> rfl
@[simp] theorem c_eqi (a b : Int) : cmpOp .eq (.int a) (.int b) = some (a == b) := by
  show (if dat 60 (.int a) && dat 60 (.int b) then some (eqv (.int a) (.int b)) else none) = _
  rfl
@[simp] theorem c_eqs (a b : Str) : cmpOp .eq (.str a) (.str b) = some (a == b) := (rfl)
@[simp] theorem c_nei (a b : Int) : cmpOp .ne (.int a) (.int b) = some (!(a == b)) := (rfl)
@[simp] theorem c_nes (a b : Str) : cmpOp .ne (.str a) (.str b) = some (!(a == b)) := (rfl)
@[simp] theorem idx_l (xs : List PV) (i : Int) : idxV (.lst xs) (.int i) = atI xs i := (rfl)
@[simp] theorem idx_t (xs : List PV) (i : Int) : idxV (.tup xs) (.int i) = atI xs i := (rfl)
@[simp] theorem asInt_int (i : Int) : asInt (.int i) = some i := (rfl)
@[simp] theorem isi_str (ty : TY) (x : Str) (h : ∀ c, ty ≠ .exc c) : isiV ty (.str x) = some (match ty with | .str => true | _ => false) := by cases ty <;> first | rfl | exact absurd rfl (h _)
@[simp] theorem blt_len (v : PV) : bltV .len [v] = (lenV v).map fun n => .val (.int n) := by
  show (match lenV v with | some n => some (R.val (.int n)) | none => none) = _
  cases lenV v <;> rfl
@[simp] theorem len_l (xs : List PV) : lenV (.lst xs) = some xs.length := (rfl)
@[simp] theorem len_t (xs : List PV) : lenV (.tup xs) = some xs.length := (rfl)
@[simp] theorem len_s (x : Str) : lenV (.str x) = some x.length := (rfl)
@[simp] theorem len_scr (x : List Int) : lenV (.scr x) = some x.length := (rfl)

/-! what is new -/
@[simp] theorem ev_dctf : ev T (.dct false) env W = .ok (.fre (.k [] [])) W := (rfl)
@[simp] theorem ev_dctt : ev T (.dct true) env W = .ok (.fre (.t [] [])) W := (rfl)
@[simp] theorem ev_meth (m : MB) (a : CE) (es : List CE) : ev T (.meth m a es) = evMeth m (ev T a) (evl T es) (pureEs T.pu es) := (rfl)
@[simp] theorem evMeth_app (m : MB) (fa : F) (fs : List F) : evMeth m fa fs p env W = (fa env W).bind fun x W1 => if tyM m x.look then (evs fs env W1).bind fun rs W2 => if noB (x :: rs) || p then opt (methV m x.look (rs.map R.look)) W2 else .bad else .bad := (rfl)
@[simp] theorem tyM_index (xs : List PV) : tyM .index (.lst xs) = true := (rfl)
@[simp] theorem tyM_count (xs : List PV) : tyM .count (.lst xs) = true := (rfl)
@[simp] theorem tyM_join (x : Str) : tyM .join (.str x) = true := (rfl)
@[simp] theorem tyM_getk (ks : List Key) (xs : List PV) : tyM .get (.dk ks xs) = true := (rfl)
@[simp] theorem tyM_gett (ks : List (List Key)) (xs : List PV) : tyM .get (.dt ks xs) = true := (rfl)
@[simp] theorem ev_isx (a : CE) (x : Str) (c : Nat) : ev T (.isx a x c) = ev1 (ev T a) fun x => (isxV c x.look).map fun b => .val (.bl b) := (rfl)
@[simp] theorem isxV_exc (c d : Nat) : isxV d (.exc c) = some (esub c d) := (rfl)
@[simp] theorem isNon_exc (i : Nat) : isNon (.val (.exc i)) = false := (rfl)
@[simp] theorem isNon_fre (c : Ct) : isNon (.fre c) = false := (rfl)
@[simp] theorem isNon_bor (c : Ct) : isNon (.bor c) = false := (rfl)
@[simp] theorem ex_exp (e : CE) : ex T (.exp e) env W = (ev T e env W).st env fun _ W1 => .ok .nx env W1 := (rfl)
@[simp] theorem ex_rais (x : Str) (c : Nat) : ex T (.rais x c) env W = .exc c env W := (rfl)
set_option smartUnfolding false in
@[simp] theorem ex_tryk (b : List CS) (x : Str) (d i j : Nat) : ex T (.tryk b x d i j) env W = tryS d i j (exs T b env W) := (rfl)
theorem ex_putA (i : Nat) (k e c k2 x : CE) : ex T (.putA i k e c k2 x) env W = xPutA i (ev T k) (ev T e) (ev T c) (ev T k2) (ev T x) (pureE T.pu c && (pureE T.pu k2 && pureE T.pu x)) env W := (rfl)
theorem ex_put (i : Nat) (k v : CE) : ex T (.put i k v) env W = xPut i (ev T k) (ev T v) env W := (rfl)
set_option smartUnfolding false in
theorem xPut_app {fk fv : F} {i : Nat} : xPut i fk fv env W = slC env[i]? fun c => (fv env W).st env fun r W1 => optS r.v fun v => (fk env W1).st env fun rk W2 => if rk.isB then .bad else optS (putC c rk.look v) fun c' => .ok .nx (env.set i (.own c')) W2 := (rfl)
/-! statements -/
@[simp] theorem exs_nil : exs T [] env W = .ok .nx env W := (rfl)
@[simp] theorem exs_one (s : CS) : exs T [s] env W = ex T s env W := (rfl)
set_option smartUnfolding false in
theorem exs_cons (s t : CS) (ss : List CS) : exs T (s :: t :: ss) env W = seqS (ex T s env W) (exs T (t :: ss)) := (rfl)
/-- ahead of more statements -/
theorem exs_nx {s : CS} {ss : List CS} {env' : Ev} (h : ex T s env W = .ok .nx env' W') : exs T (s :: ss) env W = exs T ss env' W' := by
  cases ss with
  | nil => rw [exs_one, h]; rfl
  | cons t ss => rw [exs_cons, h]; rfl
theorem exs_ret {s : CS} {ss : List CS} {env' : Ev} {r : R} (h : ex T s env W = .ok (.ret r) env' W') : exs T (s :: ss) env W = .ok (.ret r) env' W' := by
  cases ss with
  | nil => rw [exs_one, h]
  | cons t ss => rw [exs_cons, h]; rfl
@[simp] theorem ex_ret (e : CE) : ex T (.ret e) env W = (ev T e env W).st env fun r W1 => if r.isB then .bad else .ok (.ret r) env W1 := (rfl)
set_option smartUnfolding false in
@[simp] theorem ex_asg (tg : CT) (e : CE) : ex T (.asg tg e) env W = (ev T e env W).st env fun r W1 => optS r.v fun v => optS (bind tg v env) fun env' => .ok .nx env' W1 := (rfl)
set_option smartUnfolding false in
@[simp] theorem ex_own (i : Nat) (e : CE) : ex T (.own i e) env W = (ev T e env W).st env fun r W1 => ownS r fun c => .ok .nx (env.set i (.own c)) W1 := (rfl)
set_option smartUnfolding false in
@[simp] theorem ex_ife (c : CE) (a b : List CS) : ex T (.ife c a b) env W = (ev T c env W).st env fun r W1 => brS r (exs T a env W1) (exs T b env W1) := (rfl)
@[simp] theorem bind_nm (i : Nat) (v : PV) : bind (.nm i) v env = some (env.set i (.val v)) := by simp only [bind]
@[simp] theorem bind_tp (ts : List CT) (vs : List PV) : bind (.tp ts) (.tup vs) env = binds ts vs env := by simp only [bind]
@[simp] theorem binds_nil : binds [] [] env = some env := by simp only [binds]
@[simp] theorem binds_cons (t : CT) (ts : List CT) (v : PV) (vs : List PV) : binds (t :: ts) (v :: vs) env = (bind t v env).bind fun e => binds ts vs e := by
  simp only [binds]
  cases bind t v env <;> rfl
theorem run_eq {d : Df} {vs : List PV} (h : vs.length = d.np) : run T d vs W = runO (exs T d.body (vs.map Sl.val ++ List.replicate (d.nn - d.np) Sl.un) W) := by
  unfold run
  rw [if_pos h]
  rfl
theorem run_ret {d : Df} {vs : List PV} {r : R} {env' : Ev} (h : vs.length = d.np) (e : exs T d.body (vs.map Sl.val ++ List.replicate (d.nn - d.np) Sl.un) W = .ok (.ret r) env' W') : run T d vs W = .ok r W' := by
  rw [run_eq h, e]
  rfl
end
/-! instances -/
def slR (s : Option Sl) (W : Om) : Out R := match s with
  | some (.val p) => .ok (.val p) W
  | some (.own c) => .ok (.bor c) W
  | _ => .bad
@[simp] theorem slR_val (p : PV) (W : Om) : slR (some (.val p)) W = .ok (.val p) W := (rfl)
@[simp] theorem slR_own (c : Ct) (W : Om) : slR (some (.own c)) W = .ok (.bor c) W := (rfl)
def fldO (f : Str) (x : R) (W : Om) : Out R := match x with
  | .val (.obj n) => optK W[n]? fun o => slR (o.fs.lookup f) W
  | _ => .bad
@[simp] theorem fldO_obj (f : Str) (n : Nat) (W : Om) : fldO f (.val (.obj n)) W = optK W[n]? fun o => slR (o.fs.lookup f) W := (rfl)
section
variable {T : Tb} {env : Ev} {W W' : Om} {p : Bool}
@[simp] theorem ev_fld (a : CE) (f : Str) : ev T (.fld a f) = evFld (ev T a) f := (rfl)
@[simp] theorem ev_fldF (a : CE) (f : Str) : ev T (.fldF a f) = evFldF (ev T a) f := (rfl)
@[simp] theorem ev_mcall (f c : Nat) (a : CE) (m : Str) (es : List CE) : ev T (.mcall f c a m es) = evMc (T.fn f) c m (ev T a) (evl T es) := (rfl)
@[simp] theorem ev_mk (c : Nat) (x : Str) (f : Nat) (es : List CE) : ev T (.mk c x f es) = evMk (T.fn f) c (evl T es) := (rfl)
set_option smartUnfolding false in
@[simp] theorem evFld_app (fa : F) (f : Str) : evFld fa f env W = (fa env W).bind (fldO f) := (rfl)
def mcO (fn : Fn) (c : Nat) (m : Str) (fs : List F) (env : Ev) (x : R) (W1 : Om) : Out R := match x with
  | .val (.obj n) => optK W1[n]? fun o => if o.cls = c ∧ (o.fs.lookup m).isNone = true then (evs fs env W1).bind fun rs W2 => optK (vals? rs) fun vs => fn (.obj n :: vs) W2 else .bad
  | _ => .bad
@[simp] theorem mcO_obj (fn : Fn) (c : Nat) (m : Str) (fs : List F) (n : Nat) : mcO fn c m fs env (.val (.obj n)) W = optK W[n]? fun o => if o.cls = c ∧ (o.fs.lookup m).isNone = true then (evs fs env W).bind fun rs W2 => optK (vals? rs) fun vs => fn (.obj n :: vs) W2 else .bad := (rfl)
set_option smartUnfolding false in
@[simp] theorem evMc_app (fn : Fn) (c : Nat) (m : Str) (fa : F) (fs : List F) : evMc fn c m fa fs env W = (fa env W).bind (mcO fn c m fs env) := (rfl)
set_option smartUnfolding false in
@[simp] theorem evMk_app (fn : Fn) (c : Nat) (fs : List F) : evMk fn c fs env W = (evs fs env W).bind fun rs W1 => optK (vals? rs) fun vs => (fn (.obj W1.length :: vs) (W1 ++ [⟨c, []⟩])).bind (unO W1.length) := (rfl)
@[simp] theorem unO_non (n : Nat) : unO n (.val .non) W = .ok (.val (.obj n)) W := (rfl)
theorem ex_pop (i : Nat) (k : CE) : ex T (.pop i k) env W = xPop i (ev T k) env W := (rfl)
theorem pop_ok {fk : F} {i : Nat} {c c' : Ct} {r : R} (h : env[i]? = some (.own c)) (hd : isDc (some (0, ⟨0, []⟩, c)) = true) (hk : fk env W = .ok r W') (hb : r.isB = false) (hc : dropC c r.look = some c') : xPop i fk env W = .ok .nx (env.set i (.own c')) W' := by
  unfold xPop
  rw [h]
  simp only [hd, if_true, hk, Out.st_ok, hb, Bool.false_eq_true, if_false, hc]
theorem ex_popl (j i : Nat) : ex T (.popl j i) env W = xPopl j i env W := (rfl)
end
/-! comprehensions -/
theorem loopC_map {f : PV → Om → Out (Option PV)} {g : PV → Option PV} {W : Om} : ∀ {xs : List PV}, (∀ x ∈ xs, f x W = .ok (g x) W) → loopC f xs W = .ok (xs.filterMap g) W
  | [], _ => rfl
  | x :: xs, h => by
    simp only [loopC, h x List.mem_cons_self, Out.bind_ok, loopC_map (f := f) (g := g) fun y hy => h y (List.mem_cons_of_mem _ hy), List.filterMap_cons]
    cases g x <;> rfl
/-- a comprehension without a test -/
theorem comp_map {T : Tb} {e : CE} {tg : CT} {k : IK} {es : List CE} {own : List (Str × Nat)} {env : Ev} {W : Om} {rs : List R} {items : List PV} {g : PV → PV} (he : evs (evl T es) env W = .ok rs W) (hb : (noB rs || (pureEs T.pu es && (pureE T.pu e && pureEs T.pu []))) = true)
    (hi : itV k (rs.map R.look) = some items) (hl : items.length ≤ sz) (hx : ∀ x ∈ items, ∃ env' r, bind tg x (wipeE env (own.map (·.2))) = some env' ∧ ev T e env' W = .ok r W ∧ r.v = some (g x)) : ev T (.comp e tg k es [] own) env W = .ok (.fre (.l (items.map g))) W := by
  have ht : ∀ x ∈ items, turnC (ev T e) tg [] (own.map (·.2)) env x W = .ok (some (g x)) W := fun x hm => by
    obtain ⟨env', r, h1, h2, h3⟩ := hx x hm
    unfold turnC
    rw [h1]
    simp only [evAnd_nil, Out.bind_ok, h2, h3]
    rfl
  show evComp (ev T e) tg k (evl T es) [] (own.map (·.2)) _ _ env W = _
  unfold evComp
  rw [he]
  simp only [Out.bind_ok, evl_nil]
  rw [if_pos hb, hi]
  simp only [hl, if_true]
  rw [loopC_map ht, Out.bind_ok]
  simp
theorem atI_nat {α : Type} (xs : List α) (k : Nat) : atI xs (k : Int) = xs[k]? := by
  unfold atI ixN
  rw [if_pos (Int.natCast_nonneg k)]
  by_cases h : k < xs.length
  · rw [if_pos (by omega)]; simp
  · rw [if_neg (by omega)]
    simp [List.getElem?_eq_none (Nat.le_of_not_lt h)]
theorem atI_of {α : Type} {xs : List α} {i : Int} (h0 : 0 ≤ i) : atI xs i = xs[i.toNat]? := by
  have : i = (i.toNat : Int) := by omega
  rw [this, atI_nat, ← this]
theorem asBls_map {α : Type} (g : α → Bool) : ∀ xs : List α, asBls (xs.map fun x => .bl (g x)) = some (xs.map g)
  | [] => rfl
  | x :: xs => by simp only [List.map_cons, asBls, asBls_map g xs]
theorem all_map {α : Type} (g : α → Bool) (xs : List α) : bltV .all [.lst (xs.map fun x => .bl (g x))] = some (.val (.bl (xs.all g))) := by
  show (match asBls (xs.map fun x => .bl (g x)) with | some l => some (R.val (.bl (l.all id))) | none => none) = _
  rw [asBls_map]
  simp [List.all_map]
theorem any_map {α : Type} (g : α → Bool) (xs : List α) : bltV .any [.lst (xs.map fun x => .bl (g x))] = some (.val (.bl (xs.any g))) := by
  show (match asBls (xs.map fun x => .bl (g x)) with | some l => some (R.val (.bl (l.any id))) | none => none) = _
  rw [asBls_map]
  simp [List.any_map]
theorem toKeys_strs {α : Type} (g : α → Str) : ∀ xs : List α, toKeys (xs.map fun x => .str (g x)) = some (xs.map fun x => Sum.inr (g x))
  | [] => rfl
  | x :: xs => by simp only [List.map_cons, toKeys, toKey, toKeys_strs g xs]
theorem dcK_nodup : ∀ {l : List Key}, l.Nodup → dcK l = l.length
  | [], _ => rfl
  | x :: l, h => by
    obtain ⟨h1, h2⟩ := List.nodup_cons.mp h
    rw [dcK, if_neg (fun z => h1 (memK_iff.mp z)), dcK_nodup h2]; rfl
theorem dcK_lt : ∀ {l : List Key}, ¬ l.Nodup → dcK l < l.length
  | [], h => absurd List.nodup_nil h
  | x :: l, h => by
    rw [dcK]
    split
    · have := dcK_le l
      simp; omega
    · rename_i hm
      have : ¬ l.Nodup := fun z => h (List.nodup_cons.mpr ⟨fun q => hm (memK_iff.mpr q), z⟩)
      have := dcK_lt this
      simp; omega
theorem lenset_strs {α : Type} (g : α → Str) (xs : List α) (h : xs.length ≤ 1000) : bltV .lenset [.lst (xs.map fun x => .str (g x))] = some (.val (.int (dcK (xs.map fun x => Sum.inr (g x)) : Nat))) := by
  show (match toKeys (xs.map fun x => .str (g x)) with | some l => if l.length ≤ 1000 then some (R.val (.int (dcK l : Nat))) else none | none => none) = _
  rw [toKeys_strs]
  simp [h]
/-- yes or no -/
def Says (T : Tb) (f : Nat) (vs : List PV) (b : Bool) : Prop := ∀ W, T.fn f vs W = .ok (.val (.bl b)) W
def Gives (T : Tb) (f : Nat) (vs : List PV) (v : PV) : Prop := ∀ W, T.fn f vs W = .ok (.val v) W
theorem sz_big {n : Nat} (h : n ≤ 100000) : n ≤ sz := by unfold sz; omega
/-- [f(x) for x in ..], one argument, yes or no -/
theorem comp_calls {T : Tb} {f i : Nat} {e : CE} {own : List (Str × Nat)} {env : Ev} {W : Om} {xs : List PV} {v : PV} {g : PV → Bool} (he : ev T e env W = .ok (.val v) W) (hv : itemsV v = some xs) (hl : xs.length ≤ sz) (ho : i < env.length) (hw : wipeE env (own.map (·.2)) = env.set i .un) (hg : ∀ x ∈ xs, Says T f [x] (g x)) :
    ev T (.comp (.call f [.var i]) (.nm i) .one [e] [] own) env W = .ok (.fre (.l (xs.map fun x => .bl (g x)))) W := by
  refine comp_map (rs := [.val v]) (by simp [he]) (by simp) (by simpa [itV] using hv) hl fun x hx => ?_
  refine ⟨(wipeE env (own.map (·.2))).set i (.val x), .val (.bl (g x)), by simp, ?_, rfl⟩
  rw [hw]
  simp [evVar_val (v := x) (show (env.set i (.val x))[i]? = some (.val x) by simp [ho]), hg x hx W]
/-- [x[j] for x in ..] -/
theorem comp_idx {T : Tb} {i : Nat} {j : Int} {e : CE} {own : List (Str × Nat)} {env : Ev} {W : Om} {xs : List PV} {v : PV} {g : PV → PV} (he : ev T e env W = .ok (.val v) W) (hv : itemsV v = some xs) (hl : xs.length ≤ sz) (ho : i < env.length) (hw : wipeE env (own.map (·.2)) = env.set i .un) (hg : ∀ x ∈ xs, idxV x (.int j) = some (g x)) :
    ev T (.comp (.idx (.var i) (.int j)) (.nm i) .one [e] [] own) env W = .ok (.fre (.l (xs.map g))) W := by
  refine comp_map (rs := [.val v]) (by simp [he]) (by simp) (by simpa [itV] using hv) hl fun x hx => ?_
  refine ⟨(wipeE env (own.map (·.2))).set i (.val x), .val (g x), by simp, ?_, rfl⟩
  rw [hw]
  simp [evVar_val (v := x) (show (env.set i (.val x))[i]? = some (.val x) by simp [ho]), hg x hx]
@[simp] theorem pureEs_nil (p : Nat → Bool) : pureEs p [] = true := by simp only [pureEs]
@[simp] theorem pureEs_cons (p : Nat → Bool) (e : CE) (es : List CE) : pureEs p (e :: es) = (pureE p e && pureEs p es) := by simp only [pureEs]
@[simp] theorem pureE_var (p : Nat → Bool) (i : Nat) : pureE p (.var i) = true := by simp only [pureE]
@[simp] theorem pureE_int (p : Nat → Bool) (i : Int) : pureE p (.int i) = true := by simp only [pureE]
@[simp] theorem pureE_str (p : Nat → Bool) (i : Str) : pureE p (.str i) = true := by simp only [pureE]
@[simp] theorem pureE_op (p : Nat → Bool) (o : BO) (a b : CE) : pureE p (.op o a b) = (pureE p a && pureE p b) := by simp only [pureE]
@[simp] theorem pureE_idx (p : Nat → Bool) (a b : CE) : pureE p (.idx a b) = (pureE p a && pureE p b) := by simp only [pureE]
@[simp] theorem pureE_call (p : Nat → Bool) (f : Nat) (es : List CE) : pureE p (.call f es) = (p f && pureEs p es) := by simp only [pureE]
@[simp] theorem blt_tuple_l (xs : List PV) : bltV .tuple [.lst xs] = some (.val (.tup xs)) := (rfl)
@[simp] theorem blt_tuple_t (xs : List PV) : bltV .tuple [.tup xs] = some (.val (.tup xs)) := (rfl)
@[simp] theorem blt_list_l (xs : List PV) : bltV .list [.lst xs] = some (.fre (.l xs)) := (rfl)
@[simp] theorem blt_list_t (xs : List PV) : bltV .list [.tup xs] = some (.fre (.l xs)) := (rfl)
@[simp] theorem sl_lo (xs : List PV) (i : Int) : sliceV (.lst xs) (some i) none = some (.fre (.l (cutP xs (some i) none))) := (rfl)
@[simp] theorem sl_hi (xs : List PV) (i : Int) : sliceV (.lst xs) none (some i) = some (.fre (.l (cutP xs none (some i)))) := (rfl)
@[simp] theorem slt_lo (xs : List PV) (i : Int) : sliceV (.tup xs) (some i) none = some (.val (.tup (cutP xs (some i) none))) := (rfl)
@[simp] theorem slt_hi (xs : List PV) (i : Int) : sliceV (.tup xs) none (some i) = some (.val (.tup (cutP xs none (some i)))) := (rfl)
@[simp] theorem ex_app {T : Tb} {env : Ev} {W : Om} (i : Nat) (e : CE) : ex T (.app i e) env W = xApp i (ev T e) env W := (rfl)
@[simp] theorem ex_ext {T : Tb} {env : Ev} {W : Om} (i : Nat) (e : CE) : ex T (.ext i e) env W = xExt i (ev T e) env W := (rfl)
set_option smartUnfolding false in
@[simp] theorem ex_retO {T : Tb} {env : Ev} {W : Om} (i : Nat) : ex T (.retO i) env W = xRetO i env W := (rfl)
@[simp] theorem ex_brk {T : Tb} {env : Ev} {W : Om} : ex T .brk env W = .ok .brk env W := (rfl)
@[simp] theorem ex_cont {T : Tb} {env : Ev} {W : Om} : ex T .cont env W = .ok .cont env W := (rfl)
@[simp] theorem ex_pass {T : Tb} {env : Ev} {W : Om} : ex T .pass env W = .ok .nx env W := (rfl)
set_option smartUnfolding false in
theorem xApp_app {f : F} {env : Ev} {W : Om} {i : Nat} : xApp i f env W = slL env[i]? fun xs => (f env W).st env fun r W1 => optS r.v fun v => if xs.length < sz then .ok .nx (env.set i (.own (.l (xs ++ [v])))) W1 else .bad := (rfl)
set_option smartUnfolding false in
theorem xExt_app {f : F} {env : Ev} {W : Om} {i : Nat} : xExt i f env W = slL env[i]? fun xs => (f env W).st env fun r W1 => lstS r.look fun ys => if xs.length + ys.length ≤ sz then .ok .nx (env.set i (.own (.l (xs ++ ys)))) W1 else .bad := (rfl)
theorem sz_lt {n : Nat} (h : n ≤ 100000) : n < sz := by unfold sz; omega
theorem app_ok {f : F} {env : Ev} {W W' : Om} {i : Nat} {r : R} {v : PV} {xs : List PV} (h : env[i]? = some (.own (.l xs))) (he : f env W = .ok r W') (hv : r.v = some v) (hl : xs.length < sz) : xApp i f env W = .ok .nx (env.set i (.own (.l (xs ++ [v])))) W' := by
  unfold xApp
  rw [h]
  simp only [he, Out.st_ok, hv]
  rw [if_pos hl]
theorem ext_ok {f : F} {env : Ev} {W W' : Om} {i : Nat} {r : R} {xs ys : List PV} (h : env[i]? = some (.own (.l xs))) (he : f env W = .ok r W') (hv : r.look = .lst ys) (hl : xs.length + ys.length ≤ sz) : xExt i f env W = .ok .nx (env.set i (.own (.l (xs ++ ys)))) W' := by
  unfold xExt
  rw [h]
  simp only [he, Out.st_ok, hv]
  rw [if_pos hl]
/-! ### loops and comprehensions over what is typed -/
/-- the items of a walk -/
def itO (T : Tb) (k : IK) (es : List CE) (p : Bool) (env : Ev) (W : Om) : Out (List PV) := (evs (evl T es) env W).bind fun rs W1 => if noB rs || p then opt (itV k (rs.map R.look)) W1 else .bad
@[simp] theorem itO_app (T : Tb) (k : IK) (es : List CE) (p : Bool) (env : Ev) (W : Om) : itO T k es p env W = (evs (evl T es) env W).bind fun rs W1 => if noB rs || p then opt (itV k (rs.map R.look)) W1 else .bad := (rfl)
theorem itO_ok {T : Tb} {k : IK} {es : List CE} {p : Bool} {env : Ev} {W W' : Om} {l : List PV} (h : itO T k es p env W = .ok l W') : ∃ rs, evs (evl T es) env W = .ok rs W' ∧ (noB rs || p) = true ∧ itV k (rs.map R.look) = some l := by
  unfold itO at h
  cases q : evs (evl T es) env W with
  | bad => rw [q] at h; cases h
  | exc c W1 => rw [q] at h; cases h
  | ok rs W1 =>
    rw [q] at h
    simp only [Out.bind_ok] at h
    split at h
    · rename_i hb
      cases q2 : itV k (rs.map R.look) with
      | none => rw [q2] at h; cases h
      | some l2 =>
        rw [q2] at h
        cases h
        exact ⟨rs, rfl, hb, q2⟩
    · cases h
set_option smartUnfolding false in
@[simp] theorem turnC_app {fe : F} {tg : CT} {fc : List F} {own : List Nat} {env : Ev} {x : PV} {W : Om} : turnC fe tg fc own env x W = optK (bind tg x (wipeE env own)) fun env' => noX ((evAnd fc env' W).bind fun t W3 => brO t ((fe env' W3).bind fun y W4 => optK y.v fun v => .ok (some v) W4) (.ok none W3)) := (rfl)
@[simp] theorem noX_ok' {α : Type} (a : α) (W : Om) : noX (.ok a W) = .ok a W := (rfl)
@[simp] theorem wipeE_nil (env : Ev) : wipeE env [] = env := (rfl)
@[simp] theorem wipeE_cons (env : Ev) (v : Nat) (vs : List Nat) : wipeE env (v :: vs) = (wipeE env vs).set v .un := (rfl)
theorem loopC_fm {α : Type} {enc : α → PV} {f : PV → Om → Out (Option PV)} {g : α → Option PV} {W : Om} : ∀ {xs : List α}, (∀ x ∈ xs, f (enc x) W = .ok (g x) W) → loopC f (xs.map enc) W = .ok (xs.filterMap g) W
  | [], _ => rfl
  | x :: xs, h => by
    simp only [List.map_cons, loopC, h x List.mem_cons_self, Out.bind_ok, loopC_fm (f := f) (g := g) fun y hy => h y (List.mem_cons_of_mem _ hy), List.filterMap_cons]
    cases g x <;> rfl
/-- [e for x in l if c] -/
theorem comp_fm {α : Type} (l : List α) (enc : α → PV) (g : α → Option PV) {T : Tb} {e : CE} {tg : CT} {k : IK} {es c : List CE} {own : List (Str × Nat)} {env : Ev} {W : Om} (hi : itO T k es (pureEs T.pu es && (pureE T.pu e && pureEs T.pu c)) env W = .ok (l.map enc) W) (hl : l.length ≤ sz)
    (hx : ∀ x ∈ l, turnC (ev T e) tg (evl T c) (own.map (·.2)) env (enc x) W = .ok (g x) W) : ev T (.comp e tg k es c own) env W = .ok (.fre (.l (l.filterMap g))) W := by
  obtain ⟨rs, h1, h2, h3⟩ := itO_ok hi
  show evComp (ev T e) tg k (evl T es) (evl T c) (own.map (·.2)) _ _ env W = _
  unfold evComp
  rw [h1]
  simp only [Out.bind_ok]
  rw [if_pos h2, h3]
  simp only [List.length_map, hl, if_true]
  rw [loopC_fm hx, Out.bind_ok]
theorem comp_m {α : Type} (l : List α) (enc : α → PV) (g : α → PV) {T : Tb} {e : CE} {tg : CT} {k : IK} {es c : List CE} {own : List (Str × Nat)} {env : Ev} {W : Om} (hi : itO T k es (pureEs T.pu es && (pureE T.pu e && pureEs T.pu c)) env W = .ok (l.map enc) W) (hl : l.length ≤ sz)
    (hx : ∀ x ∈ l, turnC (ev T e) tg (evl T c) (own.map (·.2)) env (enc x) W = .ok (some (g x)) W) : ev T (.comp e tg k es c own) env W = .ok (.fre (.l (l.map g))) W := by
  rw [comp_fm l enc (fun x => some (g x)) hi hl hx]
  simp
/-- a turn's end -/
def lstep (kil : List Nat) : SO → SO
  | .ok .nx e W => .ok .nx (wipeE e kil) W
  | .ok .cont e W => .ok .nx (wipeE e kil) W
  | o => o
@[simp] theorem lstep_nx (kil : List Nat) (e : Ev) (W : Om) : lstep kil (.ok .nx e W) = .ok .nx (wipeE e kil) W := (rfl)
@[simp] theorem lstep_cont (kil : List Nat) (e : Ev) (W : Om) : lstep kil (.ok .cont e W) = .ok .nx (wipeE e kil) W := (rfl)
@[simp] theorem lstep_ret (kil : List Nat) (r : R) (e : Ev) (W : Om) : lstep kil (.ok (.ret r) e W) = .ok (.ret r) e W := (rfl)
@[simp] theorem lstep_exc (kil : List Nat) (c : Nat) (e : Ev) (W : Om) : lstep kil (.exc c e W) = .exc c e W := (rfl)
set_option smartUnfolding false in
@[simp] theorem turnF_app {tg : CT} {b : S} {x : PV} {env : Ev} {W : Om} : turnF tg b x env W = optS (bind tg x env) fun env' => b env' W := (rfl)
theorem loopF_cons_nx {kil : List Nat} {f : PV → S} {x : PV} {xs : List PV} {env e' : Ev} {W W' : Om} (h : lstep kil (f x env W) = .ok .nx e' W') : loopF kil f (x :: xs) env W = loopF kil f xs e' W' := by
  simp only [loopF]
  cases q : f x env W with
  | bad => rw [q] at h; cases h
  | exc c e W => rw [q] at h; cases h
  | ok fl e W =>
    rw [q] at h
    cases fl <;> first | (cases h; rfl) | cases h
theorem loopF_cons_ret {kil : List Nat} {f : PV → S} {x : PV} {xs : List PV} {env e' : Ev} {W W' : Om} {r : R} (h : lstep kil (f x env W) = .ok (.ret r) e' W') : loopF kil f (x :: xs) env W = .ok (.ret r) e' W' := by
  simp only [loopF]
  cases q : f x env W with
  | bad => rw [q] at h; cases h
  | exc c e W => rw [q] at h; cases h
  | ok fl e W =>
    rw [q] at h
    cases fl <;> first | exact h | cases h
theorem loopF_cons_exc {kil : List Nat} {f : PV → S} {x : PV} {xs : List PV} {env e' : Ev} {W W' : Om} {c : Nat} (h : lstep kil (f x env W) = .exc c e' W') : loopF kil f (x :: xs) env W = .exc c e' W' := by
  simp only [loopF]
  cases q : f x env W with
  | bad => rw [q] at h; cases h
  | exc c e W => rw [q] at h; exact h
  | ok fl e W =>
    rw [q] at h
    cases fl <;> cases h
theorem ex_fr_of {T : Tb} {tg : CT} {k : IK} {es : List CE} {body : List CS} {kil : List Nat} {env : Ev} {W W1 : Om} {l : List PV} (hi : itO T k es false env W = .ok l W1) : ex T (.fr tg k es body kil) env W = loopF kil (turnF tg (exs T body)) l env W1 := by
  obtain ⟨rs, h1, h2, h3⟩ := itO_ok hi
  show xFor tg k (evl T es) (exs T body) kil env W = _
  unfold xFor
  rw [h1]
  simp only [Out.st_ok]
  rw [if_pos (by simpa using h2), h3]
theorem loopF_fold {α σ : Type} {enc : α → PV} {kil : List Nat} {f : PV → S} {mk : σ → Ev} {st : σ → α → σ} {W : Om} : ∀ {l : List α} {s : σ}, (∀ s x, x ∈ l → lstep kil (f (enc x) (mk s) W) = .ok .nx (mk (st s x)) W) → loopF kil f (l.map enc) (mk s) W = .ok .nx (mk (l.foldl st s)) W
  | [], _, _ => rfl
  | x :: l, s, h => by
    rw [List.map_cons, loopF_cons_nx (h s x List.mem_cons_self), List.foldl_cons]
    exact loopF_fold fun s y hy => h s y (List.mem_cons_of_mem _ hy)
/-- for x in l: .., the slots' state handed on -/
theorem for_fold {α σ : Type} (l : List α) (enc : α → PV) (mk : σ → Ev) (st : σ → α → σ) (s0 : σ) {T : Tb} {tg : CT} {k : IK} {es : List CE} {body : List CS} {kil : List Nat} {env : Ev} {W : Om} (hi : itO T k es false env W = .ok (l.map enc) W) (h0 : env = mk s0)
    (hx : ∀ s x, x ∈ l → lstep kil (turnF tg (exs T body) (enc x) (mk s) W) = .ok .nx (mk (st s x)) W) : ex T (.fr tg k es body kil) env W = .ok .nx (mk (l.foldl st s0)) W := by
  rw [ex_fr_of hi, h0]
  exact loopF_fold hx
/-- .. with an invariant -/
theorem loopF_foldI {α σ : Type} {enc : α → PV} {kil : List Nat} {f : PV → S} {mk : σ → Ev} {st : σ → α → σ} {W : Om} {I : List α → σ → Prop} : ∀ {l : List α} {s : σ}, I l s → (∀ s x l, I (x :: l) s → lstep kil (f (enc x) (mk s) W) = .ok .nx (mk (st s x)) W ∧ I l (st s x)) → loopF kil f (l.map enc) (mk s) W = .ok .nx (mk (l.foldl st s)) W ∧ I [] (l.foldl st s)
  | [], _, h0, _ => ⟨rfl, h0⟩
  | x :: l, s, h0, h => by
    obtain ⟨h1, h2⟩ := h s x l h0
    rw [List.map_cons, loopF_cons_nx h1, List.foldl_cons]
    exact loopF_foldI h2 h
theorem for_foldI {α σ : Type} (I : List α → σ → Prop) (l : List α) (enc : α → PV) (mk : σ → Ev) (st : σ → α → σ) (s0 : σ) {T : Tb} {tg : CT} {k : IK} {es : List CE} {body : List CS} {kil : List Nat} {env : Ev} {W : Om} (hi : itO T k es false env W = .ok (l.map enc) W) (h0 : env = mk s0) (hI : I l s0)
    (hx : ∀ s x l, I (x :: l) s → lstep kil (turnF tg (exs T body) (enc x) (mk s) W) = .ok .nx (mk (st s x)) W ∧ I l (st s x)) : ex T (.fr tg k es body kil) env W = .ok .nx (mk (l.foldl st s0)) W := by
  rw [ex_fr_of hi, h0]
  exact (loopF_foldI hI hx).1
/-- a loop that appends to its own list in slot i -/
theorem loopF_app {α : Type} {enc : α → PV} {kil : List Nat} {f : PV → S} {i N : Nat} {env : Ev} {g : α → List PV} {W : Om} : ∀ {l : List α} {acc : List PV}, (acc ++ l.flatMap g).length ≤ N → (∀ acc x, x ∈ l → (acc ++ g x).length ≤ N → lstep kil (f (enc x) (env.set i (.own (.l acc))) W) = .ok .nx (env.set i (.own (.l (acc ++ g x)))) W) → loopF kil f (l.map enc) (env.set i (.own (.l acc))) W = .ok .nx (env.set i (.own (.l (acc ++ l.flatMap g)))) W
  | [], acc, _, _ => by simp [loopF]
  | x :: l, acc, hN, h => by
    rw [List.flatMap_cons, ← List.append_assoc] at hN ⊢
    rw [List.map_cons, loopF_cons_nx (h acc x List.mem_cons_self (Nat.le_trans (by rw [List.length_append (as := acc ++ g x)]; exact Nat.le_add_right _ _) hN))]
    exact loopF_app hN fun acc y hy => h acc y (List.mem_cons_of_mem _ hy)
theorem for_app {α : Type} (i N : Nat) (l : List α) (enc : α → PV) (g : α → List PV) (acc : List PV) {T : Tb} {tg : CT} {k : IK} {es : List CE} {body : List CS} {kil : List Nat} {env : Ev} {W : Om} (h0 : env[i]? = some (.own (.l acc))) (hi : itO T k es false env W = .ok (l.map enc) W) (hN : (acc ++ l.flatMap g).length ≤ N)
    (hx : ∀ acc x, x ∈ l → (acc ++ g x).length ≤ N → lstep kil (turnF tg (exs T body) (enc x) (env.set i (.own (.l acc))) W) = .ok .nx (env.set i (.own (.l (acc ++ g x)))) W) : ex T (.fr tg k es body kil) env W = .ok .nx (env.set i (.own (.l (acc ++ l.flatMap g)))) W := by
  rw [ex_fr_of hi]
  have e : env = env.set i (.own (.l acc)) := by
    refine List.ext_getElem? fun j => ?_
    by_cases hj : i = j
    · subst hj
      rw [h0, List.getElem?_set_self (List.getElem?_eq_some_iff.mp h0).1]
    · rw [List.getElem?_set_ne hj]
  have := loopF_app (kil := kil) (f := turnF tg (exs T body)) (enc := enc) (env := env) (W := W) hN hx
  rw [← e] at this
  exact this
/-- a loop that may end by a return -/
def foldR {α σ ρ : Type} (st : σ → α → σ ⊕ ρ) : List α → σ → σ ⊕ ρ
  | [], s => .inl s
  | x :: l, s => match st s x with
    | .inl s' => foldR st l s'
    | .inr r => .inr r
theorem for_ret {α σ : Type} (l : List α) (enc : α → PV) (mk : σ → Ev) (st : σ → α → σ ⊕ R) (s0 : σ) {T : Tb} {tg : CT} {k : IK} {es : List CE} {body : List CS} {kil : List Nat} {env : Ev} {W : Om} (hi : itO T k es false env W = .ok (l.map enc) W) (h0 : env = mk s0)
    (hx : ∀ s x, x ∈ l → match st s x with
      | .inl s' => lstep kil (turnF tg (exs T body) (enc x) (mk s) W) = .ok .nx (mk s') W
      | .inr r => ∃ e, lstep kil (turnF tg (exs T body) (enc x) (mk s) W) = .ok (.ret r) e W) :
    match foldR st l s0 with
    | .inl s => ex T (.fr tg k es body kil) env W = .ok .nx (mk s) W
    | .inr r => ∃ e, ex T (.fr tg k es body kil) env W = .ok (.ret r) e W := by
  rw [ex_fr_of hi, h0]
  clear hi h0
  induction l generalizing s0 with
  | nil => rfl
  | cons x l ih =>
    have h := hx s0 x List.mem_cons_self
    simp only [foldR]
    cases q : st s0 x with
    | inl s' =>
      rw [q] at h
      simp only at h
      rw [List.map_cons, loopF_cons_nx h]
      exact ih s' fun s y hy => hx s y (List.mem_cons_of_mem _ hy)
    | inr r =>
      rw [q] at h
      obtain ⟨e, h⟩ := h
      exact ⟨e, by rw [List.map_cons, loopF_cons_ret h]⟩
/-! ### what a def does, whatever the depth -/
mutual
def lowE (rk : Nat → Nat) (n : Nat) : CE → Bool
  | .non | .bl _ | .int _ | .str _ | .var _ | .glb _ _ | .dct _ => true
  | .tup es | .lst es | .and es | .or es | .blt _ es => lowEs rk n es
  | .op _ a b | .cmp _ a b | .idx a b | .slL a b | .slH a b => lowE rk n a && lowE rk n b
  | .cmp2 _ _ a b c | .ite a b c | .slB a b c => lowE rk n a && (lowE rk n b && lowE rk n c)
  | .isN a | .notN a | .isB _ a | .notB _ a | .not a | .neg a | .isi a _ | .inT _ a _ _ | .isx a _ _ | .rev a => lowE rk n a
  | .call f es => decide (rk f < n) && lowEs rk n es
  | .comp e _ _ es c _ => lowE rk n e && (lowEs rk n es && lowEs rk n c)
  | .meth _ a es => lowE rk n a && lowEs rk n es
  | .fld a _ | .fldF a _ => lowE rk n a
  | .mcall f _ a _ es => decide (rk f < n) && (lowE rk n a && lowEs rk n es)
  | .mk _ _ f es => decide (rk f < n) && lowEs rk n es
def lowEs (rk : Nat → Nat) (n : Nat) : List CE → Bool
  | [] => true
  | e :: es => lowE rk n e && lowEs rk n es
end
mutual
def lowS (rk : Nat → Nat) (n : Nat) : CS → Bool
  | .ret e | .asg _ e | .own _ e | .app _ e | .ext _ e | .exp e => lowE rk n e
  | .retO _ | .brk | .cont | .pass | .rais _ _ => true
  | .ife c a b => lowE rk n c && (lowSs rk n a && lowSs rk n b)
  | .fr _ _ es b _ => lowEs rk n es && lowSs rk n b
  | .wh _ c b _ => lowE rk n c && lowSs rk n b
  | .frz _ s => lowS rk n s
  | .put _ k v => lowE rk n k && lowE rk n v
  | .putA _ k e c k2 x => lowE rk n k && (lowE rk n e && (lowE rk n c && (lowE rk n k2 && lowE rk n x)))
  | .tryk b _ _ _ _ => lowSs rk n b
  | .fset a _ e | .fput _ _ a e => lowE rk n a && lowE rk n e
  | .fapp _ _ e | .fpop _ _ e | .pop _ e => lowE rk n e
  | .popl _ _ => true
  | .par _ es => lowEs rk n es
def lowSs (rk : Nat → Nat) (n : Nat) : List CS → Bool
  | [] => true
  | s :: ss => lowS rk n s && lowSs rk n ss
end
section
variable {T T' : Tb} {rk : Nat → Nat} {n : Nat}
mutual
theorem ev_congr (hp : T.pu = T'.pu) (hf : ∀ f, rk f < n → T.fn f = T'.fn f) : ∀ t, lowE rk n t = true → ev T t = ev T' t
  | .non, _ | .bl _, _ | .int _, _ | .str _, _ | .var _, _ | .glb _ _, _ | .dct _, _ => by simp only [ev]
  | .tup es, h | .lst es, h | .and es, h | .or es, h | .blt _ es, h => by
    simp only [lowE] at h
    simp only [ev, evl_congr hp hf es h, hp]
  | .op _ a b, h | .cmp _ a b, h | .idx a b, h | .slL a b, h | .slH a b, h => by
    simp only [lowE] at h
    simp only [ev, ev_congr hp hf a (and1 h), ev_congr hp hf b (and2 h), hp]
  | .cmp2 _ _ a b c, h | .ite a b c, h | .slB a b c, h => by
    simp only [lowE] at h
    simp only [ev, ev_congr hp hf a (and1 h), ev_congr hp hf b (and1 (and2 h)), ev_congr hp hf c (and2 (and2 h)), hp]
  | .isN a, h | .notN a, h | .isB _ a, h | .notB _ a, h | .not a, h | .neg a, h | .isi a _, h | .inT _ a _ _, h | .isx a _ _, h | .rev a, h => by
    simp only [lowE] at h
    simp only [ev, ev_congr hp hf a h]
  | .call f es, h => by
    simp only [lowE] at h
    simp only [ev, hf f (of_decide_eq_true (and1 h)), evl_congr hp hf es (and2 h)]
  | .comp e _ _ es c _, h => by
    simp only [lowE] at h
    simp only [ev, ev_congr hp hf e (and1 h), evl_congr hp hf es (and1 (and2 h)), evl_congr hp hf c (and2 (and2 h)), hp]
  | .meth _ a es, h => by
    simp only [lowE] at h
    simp only [ev, ev_congr hp hf a (and1 h), evl_congr hp hf es (and2 h), hp]
  | .fld a _, h | .fldF a _, h => by
    simp only [lowE] at h
    simp only [ev, ev_congr hp hf a h]
  | .mcall f _ a _ es, h => by
    simp only [lowE] at h
    simp only [ev, hf f (of_decide_eq_true (and1 h)), ev_congr hp hf a (and1 (and2 h)), evl_congr hp hf es (and2 (and2 h))]
  | .mk _ _ f es, h => by
    simp only [lowE] at h
    simp only [ev, hf f (of_decide_eq_true (and1 h)), evl_congr hp hf es (and2 h)]
theorem evl_congr (hp : T.pu = T'.pu) (hf : ∀ f, rk f < n → T.fn f = T'.fn f) : ∀ ts, lowEs rk n ts = true → evl T ts = evl T' ts
  | [], _ => rfl
  | t :: ts, h => by
    simp only [lowEs] at h
    simp only [evl, ev_congr hp hf t (and1 h), evl_congr hp hf ts (and2 h)]
end
mutual
theorem ex_congr (hp : T.pu = T'.pu) (hf : ∀ f, rk f < n → T.fn f = T'.fn f) : ∀ t, lowS rk n t = true → ex T t = ex T' t
  | .ret e, h | .asg _ e, h | .own _ e, h | .app _ e, h | .ext _ e, h | .exp e, h => by
    simp only [lowS] at h
    simp only [ex, ev_congr hp hf e h]
  | .retO _, _ | .brk, _ | .cont, _ | .pass, _ | .rais _ _, _ => by simp only [ex]
  | .ife c a b, h => by
    simp only [lowS] at h
    simp only [ex, ev_congr hp hf c (and1 h), exs_congr hp hf a (and1 (and2 h)), exs_congr hp hf b (and2 (and2 h))]
  | .fr _ _ es b _, h => by
    simp only [lowS] at h
    simp only [ex, evl_congr hp hf es (and1 h), exs_congr hp hf b (and2 h)]
  | .wh _ c b _, h => by
    simp only [lowS] at h
    simp only [ex, ev_congr hp hf c (and1 h), exs_congr hp hf b (and2 h)]
  | .frz _ s, h => by
    simp only [lowS] at h
    simp only [ex, ex_congr hp hf s h]
  | .put _ k v, h => by
    simp only [lowS] at h
    simp only [ex, ev_congr hp hf k (and1 h), ev_congr hp hf v (and2 h)]
  | .putA _ k e c k2 x, h => by
    simp only [lowS] at h
    simp only [ex, ev_congr hp hf k (and1 h), ev_congr hp hf e (and1 (and2 h)), ev_congr hp hf c (and1 (and2 (and2 h))), ev_congr hp hf k2 (and1 (and2 (and2 (and2 h)))), ev_congr hp hf x (and2 (and2 (and2 (and2 h)))), hp]
  | .tryk b _ _ _ _, h => by
    simp only [lowS] at h
    simp only [ex, exs_congr hp hf b h]
  | .fset a _ e, h | .fput _ _ a e, h => by
    simp only [lowS] at h
    simp only [ex, ev_congr hp hf a (and1 h), ev_congr hp hf e (and2 h), hp]
  | .fapp _ _ e, h | .fpop _ _ e, h | .pop _ e, h => by
    simp only [lowS] at h
    simp only [ex, ev_congr hp hf e h, hp]
  | .popl _ _, _ => by simp only [ex]
  | .par _ es, h => by
    simp only [lowS] at h
    simp only [ex, evl_congr hp hf es h]
theorem exs_congr (hp : T.pu = T'.pu) (hf : ∀ f, rk f < n → T.fn f = T'.fn f) : ∀ ts, lowSs rk n ts = true → exs T ts = exs T' ts
  | [], _ => rfl
  | [s], h => by
    simp only [lowSs] at h
    simp only [exs, ex_congr hp hf s (and1 h)]
  | s :: s2 :: ss, h => by
    rw [lowSs] at h
    have h2 := exs_congr hp hf (s2 :: ss) (and2 h)
    show xSeq (ex T s) (exs T (s2 :: ss)) = xSeq (ex T' s) (exs T' (s2 :: ss))
    rw [ex_congr hp hf s (and1 h), h2]
end
end
theorem run_congr {T T' : Tb} {rk : Nat → Nat} {n : Nat} (hp : T.pu = T'.pu) (hf : ∀ f, rk f < n → T.fn f = T'.fn f) {d : Df} (h : lowSs rk n d.body = true) : run T d = run T' d := by
  funext vs W
  unfold run
  rw [exs_congr hp hf d.body h]
theorem tb_stable {ds : Nat → Option Df} {pu : Nat → Bool} {rk : Nat → Nat} (h : ∀ f d, ds f = some d → lowSs rk (rk f) d.body = true) : ∀ (n f : Nat), rk f < n → ∀ k k', rk f < k → rk f < k' → (tb ds pu k).fn f = (tb ds pu k').fn f
  | 0, f, hn, _, _, _, _ => absurd hn (Nat.not_lt_zero _)
  | n + 1, f, hn, 0, _, hk, _ => absurd hk (Nat.not_lt_zero _)
  | n + 1, f, hn, k + 1, 0, _, hk => absurd hk (Nat.not_lt_zero _)
  | n + 1, f, hn, k + 1, k' + 1, hk, hk' => by
    simp only [tb]
    cases q : ds f with
    | none => rfl
    | some d => exact run_congr (rk := rk) (n := rk f) (by rw [tb_pu, tb_pu]) (fun g hg => tb_stable h n g (by omega) k k' (by omega) (by omega)) (h f d q)
/-- a def is its own text, run in the same table -/
theorem tb_fix {ds : Nat → Option Df} {pu : Nat → Bool} {rk : Nat → Nat} {D : Nat} (h : ∀ f d, ds f = some d → lowSs rk (rk f) d.body = true) {f : Nat} {d : Df} (hd : ds f = some d) (hr : rk f < D) : (tb ds pu D).fn f = run (tb ds pu D) d := by
  cases D with
  | zero => exact absurd hr (Nat.not_lt_zero _)
  | succ D =>
    have e : (tb ds pu (D + 1)).fn f = run (tb ds pu D) d := by simp only [tb, hd]
    rw [e]
    exact run_congr (rk := rk) (n := rk f) (by rw [tb_pu, tb_pu]) (fun g hg => tb_stable h (rk g + 1) g (Nat.lt_succ_self _) D (D + 1) (by omega) (by omega)) (h f d hd)
def lowT (rk : Nat → Nat) : Nat → List Tx → Bool
  | _, [] => true
  | f, t :: ts => lowSs rk (rk f) t.d.body && lowT rk (f + 1) ts
theorem lowT_ok {rk : Nat → Nat} : ∀ {ts : List Tx} {k : Nat}, lowT rk k ts = true → ∀ f t, ts[f]? = some t → lowSs rk (rk (k + f)) t.d.body = true
  | [], _, _, f, t, e => by simp at e
  | t0 :: ts, k, h, 0, t, e => by
    simp only [lowT] at h
    simp at e
    subst e
    exact and1 h
  | t0 :: ts, k, h, f + 1, t, e => by
    simp only [lowT] at h
    have := lowT_ok (and2 h) f t (by simpa using e)
    rw [show k + (f + 1) = k + 1 + f from by omega]
    exact this
theorem low_ds {rk : Nat → Nat} {ts : List Tx} (h : lowT rk 0 ts = true) : ∀ f d, dsOf ts f = some d → lowSs rk (rk f) d.body = true := fun f d e => by
  unfold dsOf at e
  cases q : ts[f]? with
  | none => rw [q] at e; cases e
  | some t =>
    rw [q] at e
    cases e
    have := lowT_ok h f t q
    rwa [Nat.zero_add] at this
end D

/-! D22: schemas, stores, rows as Lean data; how they are written as plain values. -/
namespace D
open PySem PySem.Spec PyProof.Rows L2
inductive Srt where | num | text | link (k : Str) (may : Bool) (rule : Str)
  deriving DecidableEq
inductive Vl where | non | int (i : Int) | str (x : Str)
  deriving DecidableEq
abbrev Fld := Str × Srt
abbrev Knd := Str × List Fld
abbrev Sch := List Knd
abbrev Row := Int × Int × List Vl
abbrev Shf := Int × List Row
abbrev Sto := List Shf
instance : Inhabited Srt := ⟨.num⟩
instance : Inhabited Vl := ⟨.non⟩
def eSrt : Srt → PV
  | .num => .str "number"
  | .text => .str "text"
  | .link k m r => .tup [.str "link", .str k, .bl m, .str r]
def eVl : Vl → PV
  | .non => .non
  | .int i => .int i
  | .str x => .str x
def eFld (f : Fld) : PV := .tup [.str f.1, eSrt f.2]
def eFlds (fs : List Fld) : PV := .tup (fs.map eFld)
def eKnd (k : Knd) : PV := .tup [.str k.1, eFlds k.2]
def eSch (S : Sch) : PV := .tup (S.map eKnd)
def eVls (vs : List Vl) : PV := .tup (vs.map eVl)
def eRow (r : Row) : PV := .tup [.int r.1, .int r.2.1, eVls r.2.2]
def eRows (rs : List Row) : PV := .tup (rs.map eRow)
def eShf (s : Shf) : PV := .tup [.int s.1, eRows s.2]
def eSto (st : Sto) : PV := .tup (st.map eShf)
/-! ### what is read of them -/
@[simp] theorem at0 {α : Type} (x : α) (l : List α) : atI (x :: l) 0 = some x := by unfold atI ixN; simp
@[simp] theorem at1 {α : Type} (x y : α) (l : List α) : atI (x :: y :: l) 1 = some y := by
  have := atI_nat (x :: y :: l) 1
  simpa using this
@[simp] theorem at2 {α : Type} (x y z : α) (l : List α) : atI (x :: y :: z :: l) 2 = some z := by
  have := atI_nat (x :: y :: z :: l) 2
  simpa using this
@[simp] theorem at3 {α : Type} (x y z u : α) (l : List α) : atI (x :: y :: z :: u :: l) 3 = some u := by
  have := atI_nat (x :: y :: z :: u :: l) 3
  simpa using this
@[simp] theorem at4 {α : Type} (x y z u v : α) (l : List α) : atI (x :: y :: z :: u :: v :: l) 4 = some v := by
  have := atI_nat (x :: y :: z :: u :: v :: l) 4
  simpa using this
theorem atI_map {α : Type} (f : α → PV) (l : List α) (i : Nat) : atI (l.map f) (i : Int) = (l[i]?).map f := by rw [atI_nat, List.getElem?_map]
theorem atI_get {α : Type} (f : α → PV) {l : List α} {i : Nat} {x : α} (h : l[i]? = some x) : atI (l.map f) (i : Int) = some (f x) := by rw [atI_map, h]; rfl
@[simp] theorem ix_knd0 (k : Knd) : idxV (eKnd k) (.int 0) = some (.str k.1) := by simp [eKnd]
@[simp] theorem ix_knd1 (k : Knd) : idxV (eKnd k) (.int 1) = some (eFlds k.2) := by simp [eKnd]
@[simp] theorem ix_fld0 (k : Fld) : idxV (eFld k) (.int 0) = some (.str k.1) := by simp [eFld]
@[simp] theorem ix_fld1 (k : Fld) : idxV (eFld k) (.int 1) = some (eSrt k.2) := by simp [eFld]
@[simp] theorem ix_row0 (k : Row) : idxV (eRow k) (.int 0) = some (.int k.1) := by simp [eRow]
@[simp] theorem ix_row1 (k : Row) : idxV (eRow k) (.int 1) = some (.int k.2.1) := by simp [eRow]
@[simp] theorem ix_row2 (k : Row) : idxV (eRow k) (.int 2) = some (eVls k.2.2) := by simp [eRow]
@[simp] theorem ix_shf0 (k : Shf) : idxV (eShf k) (.int 0) = some (.int k.1) := by simp [eShf]
@[simp] theorem ix_shf1 (k : Shf) : idxV (eShf k) (.int 1) = some (eRows k.2) := by simp [eShf]
@[simp] theorem it_sch (S : Sch) : itemsV (eSch S) = some (S.map eKnd) := (rfl)
@[simp] theorem it_flds (S : List Fld) : itemsV (eFlds S) = some (S.map eFld) := (rfl)
@[simp] theorem it_rows (S : List Row) : itemsV (eRows S) = some (S.map eRow) := (rfl)
@[simp] theorem it_vls (S : List Vl) : itemsV (eVls S) = some (S.map eVl) := (rfl)
@[simp] theorem it_sto (S : Sto) : itemsV (eSto S) = some (S.map eShf) := (rfl)
@[simp] theorem it_l (xs : List PV) : itemsV (.lst xs) = some xs := (rfl)
@[simp] theorem it_t (xs : List PV) : itemsV (.tup xs) = some xs := (rfl)
@[simp] theorem it_s (xs : List Int) : itemsV (.scr xs) = some (xs.map .int) := (rfl)
@[simp] theorem itV_one (v : PV) : itV .one [v] = itemsV v := (rfl)
@[simp] theorem len_sch (S : Sch) : lenV (eSch S) = some S.length := by simp [eSch]
@[simp] theorem len_flds (S : List Fld) : lenV (eFlds S) = some S.length := by simp [eFlds]
@[simp] theorem len_rows (S : List Row) : lenV (eRows S) = some S.length := by simp [eRows]
@[simp] theorem len_vls (S : List Vl) : lenV (eVls S) = some S.length := by simp [eVls]
@[simp] theorem len_sto (S : Sto) : lenV (eSto S) = some S.length := by simp [eSto]
@[simp] theorem isN_vl (v : Vl) : isNon (.val (eVl v)) = decide (v = .non) := by cases v <;> simp [eVl]
@[simp] theorem isN_fld (v : Fld) : isNon (.val (eFld v)) = false := (rfl)
@[simp] theorem isN_row (v : Row) : isNon (.val (eRow v)) = false := (rfl)
@[simp] theorem isN_shf (v : Shf) : isNon (.val (eShf v)) = false := (rfl)
@[simp] theorem isN_sto (v : Sto) : isNon (.val (eSto v)) = false := (rfl)
@[simp] theorem isN_sch (v : Sch) : isNon (.val (eSch v)) = false := (rfl)
@[simp] theorem bind_knd (ts : List CT) (k : Knd) (env : Ev) : bind (.tp ts) (eKnd k) env = binds ts [.str k.1, eFlds k.2] env := by simp [eKnd]
@[simp] theorem bind_fld (ts : List CT) (k : Fld) (env : Ev) : bind (.tp ts) (eFld k) env = binds ts [.str k.1, eSrt k.2] env := by simp [eFld]
@[simp] theorem bind_row (ts : List CT) (k : Row) (env : Ev) : bind (.tp ts) (eRow k) env = binds ts [.int k.1, .int k.2.1, eVls k.2.2] env := by simp [eRow]
@[simp] theorem bind_shf (ts : List CT) (k : Shf) (env : Ev) : bind (.tp ts) (eShf k) env = binds ts [.int k.1, eRows k.2] env := by simp [eShf]
/-- two together, numbered -/
def ePr {α β : Type} (f : α → PV) (g : β → PV) (p : α × β) : PV := .tup [f p.1, g p.2]
def eNm {α : Type} (f : α → PV) (p : α × Nat) : PV := .tup [.int p.2, f p.1]
@[simp] theorem bind_pr {α β : Type} (f : α → PV) (g : β → PV) (ts : List CT) (p : α × β) (env : Ev) : bind (.tp ts) (ePr f g p) env = binds ts [f p.1, g p.2] env := by simp [ePr]
@[simp] theorem bind_en {α : Type} (f : α → PV) (ts : List CT) (p : α × Nat) (env : Ev) : bind (.tp ts) (eNm f p) env = binds ts [.int p.2, f p.1] env := by simp [eNm]
theorem zipF_map {α β : Type} (f : α → PV) (g : β → PV) : ∀ (l : List α) (m : List β), zipF (l.map f) (m.map g) = (l.zip m).map (ePr f g)
  | [], _ => by simp [zipF]
  | _ :: _, [] => by simp [zipF]
  | x :: l, y :: m => by simp [zipF, zipF_map f g l m, ePr]
theorem enumF_map {α : Type} (f : α → PV) : ∀ (l : List α) (n : Nat), enumF n (l.map f) = (l.zipIdx n).map (eNm f)
  | [], _ => rfl
  | x :: l, n => by simp [enumF, enumF_map f l (n + 1), eNm]
theorem itV_zipt {α β : Type} (f : α → PV) (g : β → PV) (l : List α) (m : List β) (h : ∀ x y, slp (ePr f g (x, y)) = false) : itV .zip [.tup (l.map f), .tup (m.map g)] = some ((l.zip m).map (ePr f g)) := by
  show (if (zipF (l.map f) (m.map g)).any slp then none else some (zipF (l.map f) (m.map g))) = _
  rw [zipF_map, if_neg]
  rw [Bool.not_eq_true, List.any_eq_false]
  intro x hx
  obtain ⟨q, _, rfl⟩ := List.mem_map.mp hx
  rw [h q.1 q.2]
  exact Bool.false_ne_true
@[simp] theorem itV_enl {α : Type} (f : α → PV) (l : List α) : itV .enum [.lst (l.map f)] = some (l.zipIdx.map (eNm f)) := by simp [itV, enumF_map]
@[simp] theorem itV_ent {α : Type} (f : α → PV) (l : List α) : itV .enum [.tup (l.map f)] = some (l.zipIdx.map (eNm f)) := by simp [itV, enumF_map]
@[simp] theorem itV_zss (S : Sch) (st : Sto) : itV .zip [eSch S, eSto st] = some ((S.zip st).map (ePr eKnd eShf)) := itV_zipt _ _ _ _ fun x y => by simp [slp, slk, ePr, kdk, eShf]
@[simp] theorem itV_zfv (S : List Fld) (st : List Vl) : itV .zip [eFlds S, eVls st] = some ((S.zip st).map (ePr eFld eVl)) := itV_zipt _ _ _ _ fun x y => by cases y <;> simp [slp, slk, ePr, kdk, eVl]
@[simp] theorem itV_esch (S : Sch) : itV .enum [eSch S] = some (S.zipIdx.map (eNm eKnd)) := itV_ent _ _
@[simp] theorem itV_eflds (S : List Fld) : itV .enum [eFlds S] = some (S.zipIdx.map (eNm eFld)) := itV_ent _ _
theorem rngF_map : ∀ (n : Nat) (a : Nat), rngF (a : Int) n = (List.range' a n).map fun k => .int (k : Nat)
  | 0, _ => rfl
  | n + 1, a => by
    have := rngF_map n (a + 1)
    simp only [rngF, List.range'_succ, List.map_cons]
    rw [show ((a : Int) + 1) = ((a + 1 : Nat) : Int) from by omega, this]
def eNat (k : Nat) : PV := .int k
theorem itV_rng {n : Int} {m : Nat} (h : n = m) (hm : m < 4611686018427387904) : itV .rng [.int n] = some ((List.range m).map eNat) := by
  subst h
  show (if inR62 (m : Int) then some (rngF 0 (m : Int).toNat) else none) = _
  have : inR62 (m : Int) = true := by unfold inR62; simp only [Bool.and_eq_true, decide_eq_true_eq]; omega
  rw [if_pos this]
  have := rngF_map m 0
  rw [Int.toNat_natCast, show (0 : Int) = ((0 : Nat) : Int) from rfl, this, List.range_eq_range']
  rfl
/-! ### equality -/
mutual
theorem eqv_refl : ∀ (n : Nat) (a : PV), dat n a = true → eqv a a = true
  | n, .non, _ | n, .bl _, _ | n, .int _, _ | n, .str _, _ => by simp [eqv]
  | n, .tup xs, h => by
    cases n with
    | zero => simp [dat] at h
    | succ n =>
      simp only [dat] at h
      simp only [eqv]
      exact eqvs_refl n xs h
  | n, .lst xs, h => by
    cases n with
    | zero => simp [dat] at h
    | succ n =>
      simp only [dat] at h
      simp only [eqv]
      exact eqvs_refl n xs h
  | n, .dk _ _, h | n, .dt _ _, h | n, .obj _, h | n, .exc _, h | n, .scr _, h => by cases n <;> simp [dat] at h
theorem eqvs_refl : ∀ (n : Nat) (a : List PV), dats n a = true → eqvs a a = true
  | n, [], _ => by simp [eqvs]
  | n, x :: xs, h => by
    simp only [dats, Bool.and_eq_true] at h
    simp only [eqvs, Bool.and_eq_true]
    exact ⟨eqv_refl n x h.1, eqvs_refl n xs h.2⟩
end
theorem c_eq {a b : PV} (ha : dat 60 a = true) (hb : dat 60 b = true) : cmpOp .eq a b = some (eqv a b) := by
  cases a <;> first | (simp [dat] at ha; done) | (show (if dat 60 _ && dat 60 b then some (eqv _ b) else none) = _; rw [ha, hb]; rfl)
theorem c_ne {a b : PV} (ha : dat 60 a = true) (hb : dat 60 b = true) : cmpOp .ne a b = some (!eqv a b) := by
  cases a <;> first | (simp [dat] at ha; done) | (show (if dat 60 _ && dat 60 b then some (!eqv _ b) else none) = _; rw [ha, hb]; rfl)
theorem c_eq_self {a : PV} (ha : dat 60 a = true) : cmpOp .eq a a = some true := by rw [c_eq ha ha, eqv_refl 60 a ha]
theorem c_ne_self {a : PV} (ha : dat 60 a = true) : cmpOp .ne a a = some false := by rw [c_ne ha ha, eqv_refl 60 a ha]; rfl
@[simp] theorem dat_non (n : Nat) : dat n .non = true := by cases n <;> rfl
@[simp] theorem dat_bl (n : Nat) (b : Bool) : dat n (.bl b) = true := by cases n <;> rfl
@[simp] theorem dat_int (n : Nat) (b : Int) : dat n (.int b) = true := by cases n <;> rfl
@[simp] theorem dat_str (n : Nat) (b : Str) : dat n (.str b) = true := by cases n <;> rfl
theorem dats_map {α : Type} {f : α → PV} {n : Nat} : ∀ {l : List α}, (∀ x ∈ l, dat n (f x) = true) → dats n (l.map f) = true
  | [], _ => by simp [dats]
  | x :: l, h => by
    simp only [List.map_cons, dats, Bool.and_eq_true]
    exact ⟨h x (by simp), dats_map fun y hy => h y (by simp [hy])⟩
@[simp] theorem dat_vl (n : Nat) (v : Vl) : dat n (eVl v) = true := by cases v <;> simp [eVl]
@[simp] theorem dat_vls (n : Nat) (v : List Vl) : dat (n + 1) (eVls v) = true := by simp only [eVls, dat]; exact dats_map fun x _ => dat_vl n x
@[simp] theorem dat_row (n : Nat) (v : Row) : dat (n + 2) (eRow v) = true := by simp [eRow, dat, dats]
@[simp] theorem dat_rows (n : Nat) (v : List Row) : dat (n + 3) (eRows v) = true := by simp only [eRows, dat]; exact dats_map fun x _ => dat_row n x
@[simp] theorem dat_shf (n : Nat) (v : Shf) : dat (n + 4) (eShf v) = true := by simp [eShf, dat, dats]
@[simp] theorem dat_sto (n : Nat) (v : Sto) : dat (n + 5) (eSto v) = true := by simp only [eSto, dat]; exact dats_map fun x _ => dat_shf n x
@[simp] theorem dat_srt (n : Nat) (v : Srt) : dat (n + 1) (eSrt v) = true := by cases v <;> simp [eSrt, dat, dats]
@[simp] theorem dat_fld (n : Nat) (v : Fld) : dat (n + 2) (eFld v) = true := by simp [eFld, dat, dats]
@[simp] theorem dat_flds (n : Nat) (v : List Fld) : dat (n + 3) (eFlds v) = true := by simp only [eFlds, dat]; exact dats_map fun x _ => dat_fld n x
@[simp] theorem dat_knd (n : Nat) (v : Knd) : dat (n + 4) (eKnd v) = true := by simp [eKnd, dat, dats]
@[simp] theorem dat_sch (n : Nat) (v : Sch) : dat (n + 5) (eSch v) = true := by simp only [eSch, dat]; exact dats_map fun x _ => dat_knd n x
@[simp] theorem eqv_vl (v w : Vl) : eqv (eVl v) (eVl w) = decide (v = w) := by
  rw [Bool.eq_iff_iff]
  cases v <;> cases w <;> simp [eVl, eqv]
@[simp] theorem eqv_vli (v : Vl) (i : Int) : eqv (eVl v) (.int i) = decide (v = .int i) := eqv_vl v (.int i)
@[simp] theorem c_eq_vli (v : Vl) (i : Int) : cmpOp .eq (eVl v) (.int i) = some (decide (v = .int i)) := by rw [c_eq (by simp) (by simp), eqv_vli]
@[simp] theorem c_ne_vli (v : Vl) (i : Int) : cmpOp .ne (eVl v) (.int i) = some (!decide (v = .int i)) := by rw [c_ne (by simp) (by simp), eqv_vli]
theorem eqvs_map {α : Type} [DecidableEq α] {f : α → PV} (hf : ∀ x y, eqv (f x) (f y) = decide (x = y)) : ∀ l m : List α, eqvs (l.map f) (m.map f) = decide (l = m)
  | [], [] => by simp [eqvs]
  | [], _ :: _ => by simp [eqvs]
  | _ :: _, [] => by simp [eqvs]
  | x :: l, y :: m => by
    simp only [List.map_cons, eqvs, hf, eqvs_map hf l m, List.cons.injEq, Bool.decide_and]
@[simp] theorem eqv_vls (v w : List Vl) : eqv (eVls v) (eVls w) = decide (v = w) := by
  simp only [eVls, eqv]; exact eqvs_map eqv_vl v w
@[simp] theorem eqv_row (v w : Row) : eqv (eRow v) (eRow w) = decide (v = w) := by
  obtain ⟨a, b, c⟩ := v
  obtain ⟨a', b', c'⟩ := w
  rw [Bool.eq_iff_iff]
  simp [eRow, eqv, eqvs, eqv_vls]
@[simp] theorem eqv_rows (v w : List Row) : eqv (eRows v) (eRows w) = decide (v = w) := by
  simp only [eRows, eqv]; exact eqvs_map eqv_row v w
@[simp] theorem eqv_shf (v w : Shf) : eqv (eShf v) (eShf w) = decide (v = w) := by
  obtain ⟨a, b⟩ := v
  obtain ⟨a', b'⟩ := w
  rw [Bool.eq_iff_iff]
  simp [eShf, eqv, eqvs, eqv_rows]
@[simp] theorem eqv_sto (v w : Sto) : eqv (eSto v) (eSto w) = decide (v = w) := by
  simp only [eSto, eqv]; exact eqvs_map eqv_shf v w
/-! ### names and places -/
def names (S : Sch) : List Str := S.map (·.1)
def ix (k : Str) : List Str → Nat
  | [] => 0
  | y :: ys => if y = k then 0 else ix k ys + 1
theorem ix_lt {k : Str} : ∀ {l : List Str}, k ∈ l → ix k l < l.length
  | y :: ys, h => by
    simp only [ix]
    split
    · simp
    · rename_i hy
      have := ix_lt (k := k) (l := ys) (by rcases List.mem_cons.mp h with e | e; exact absurd e.symm hy; exact e)
      simpa using this
theorem ix_get {k : Str} : ∀ {l : List Str}, k ∈ l → l[ix k l]? = some k
  | y :: ys, h => by
    simp only [ix]
    split
    · rename_i e; simp [e]
    · rename_i hy
      have := ix_get (k := k) (l := ys) (by rcases List.mem_cons.mp h with e | e; exact absurd e.symm hy; exact e)
      simpa using this
theorem ix_of : ∀ {l : List Str} {i : Nat} {k : Str}, l.Nodup → l[i]? = some k → ix k l = i
  | y :: ys, 0, k, _, h => by simp at h; simp [ix, h]
  | y :: ys, i + 1, k, nd, h => by
    simp at h
    have hm : k ∈ ys := List.mem_of_getElem? h
    have hy : ¬ y = k := fun e => (List.nodup_cons.mp nd).1 (e ▸ hm)
    simp only [ix, if_neg hy]
    rw [ix_of (List.nodup_cons.mp nd).2 h]
theorem findI_str {k : Str} : ∀ {l : List Str}, k ∈ l → findI (.str k) (l.map .str) = some (ix k l)
  | y :: ys, h => by
    simp only [List.map_cons, findI, ix, eqv]
    by_cases e : y = k
    · simp [e]
    · have e2 : (y == k) = false := by simpa using e
      have := findI_str (k := k) (l := ys) (by rcases List.mem_cons.mp h with e' | e'; exact absurd e'.symm e; exact e')
      simp [e, e2, this]
theorem m_index {k : Str} {l : List Str} (h : k ∈ l) : methV .index (.lst (l.map .str)) [.str k] = some (.val (.int (ix k l))) := by
  show (if dat 60 (.str k) && dats 59 (l.map PV.str) then match findI (.str k) (l.map .str) with | some j => some (R.val (.int j)) | none => none else none) = _
  rw [findI_str h, dats_map fun x _ => dat_str 59 x]
  simp
def fieldsOf (S : Sch) (k : Str) : List Fld := (S.getD (ix k (names S)) ("", [])).2
def shelfOf (S : Sch) (st : Sto) (k : Str) : Shf := st.getD (ix k (names S)) (0, [])
theorem sch_at {S : Sch} {k : Str} (h : k ∈ names S) : S[ix k (names S)]? = some (k, fieldsOf S k) := by
  have h1 := ix_get h
  unfold names at h1
  rw [List.getElem?_map] at h1
  cases q : S[ix k (names S)]? with
  | none => unfold names at q; rw [q] at h1; cases h1
  | some p =>
    have q' := q
    unfold names at q
    rw [q] at h1
    simp at h1
    unfold fieldsOf
    rw [List.getD_eq_getElem?_getD, q']
    simp [← h1]
theorem sto_at {S : Sch} {st : Sto} {k : Str} (hl : st.length = S.length) (h : k ∈ names S) : st[ix k (names S)]? = some (shelfOf S st k) := by
  have h1 := ix_lt h
  unfold names at h1
  rw [List.length_map, ← hl] at h1
  unfold shelfOf
  rw [List.getD_eq_getElem?_getD]
  unfold names
  rw [List.getElem?_eq_getElem h1]
  rfl
theorem mem_names {S : Sch} {k : Knd} (h : k ∈ S) : k.1 ∈ names S := List.mem_map.mpr ⟨k, h, rfl⟩
theorem fieldsOf_mem {S : Sch} (nd : (names S).Nodup) {k : Knd} (h : k ∈ S) : fieldsOf S k.1 = k.2 := by
  obtain ⟨i, hi⟩ := List.mem_iff_getElem?.mp h
  have e : ix k.1 (names S) = i := ix_of nd (by unfold names; rw [List.getElem?_map, hi]; rfl)
  have := sch_at (mem_names h)
  rw [e, hi] at this
  have := Option.some.inj this
  rw [this]
/-- kind by kind with its shelf -/
theorem zip_eq {S : Sch} {st : Sto} (nd : (names S).Nodup) (hl : st.length = S.length) : S.zip st = S.map fun k => (k, shelfOf S st k.1) := by
  refine List.ext_getElem? fun i => ?_
  rw [List.getElem?_map]
  cases q : S[i]? with
  | none =>
    rw [Option.map_none]
    exact List.getElem?_eq_none (by
      have := List.getElem?_eq_none_iff.mp q
      rw [List.length_zip]
      omega)
  | some k =>
    have hi := (List.getElem?_eq_some_iff.mp q).1
    have e : ix k.1 (names S) = i := ix_of nd (by unfold names; rw [List.getElem?_map, q]; rfl)
    have h2 := sto_at (st := st) hl (mem_names (List.mem_of_getElem? q))
    rw [e] at h2
    rw [Option.map_some, List.getElem?_zip_eq_some]
    exact ⟨q, h2⟩
/-! ### dicts whose keys are texts -/
def putA {α : Type} (l : List (Str × α)) (k : Str) (v : α) : List (Str × α) := if (l.any fun p => decide (p.1 = k)) = true then l.map (fun p => if p.1 = k then (p.1, v) else p) else l ++ [(k, v)]
def getA {α : Type} : List (Str × α) → Str → Option α
  | [], _ => none
  | p :: l, k => if p.1 = k then some p.2 else getA l k
def ksA {α : Type} (l : List (Str × α)) : List Key := l.map fun p => Sum.inr p.1
def eDct {α : Type} (f : α → PV) (l : List (Str × α)) : PV := .dk (ksA l) (l.map fun p => f p.2)
def cDct {α : Type} (f : α → PV) (l : List (Str × α)) : Ct := .k (ksA l) (l.map fun p => f p.2)
@[simp] theorem cDct_pv {α : Type} (f : α → PV) (l : List (Str × α)) : (cDct f l).pv = eDct f l := (rfl)
theorem cDct_nil {α : Type} (f : α → PV) : cDct f [] = .k [] [] := rfl
theorem look_A {α : Type} (f : α → PV) (k : Str) : ∀ l : List (Str × α), look? (ksA l) (l.map fun p => f p.2) (Sum.inr k) = (getA l k).map f
  | [] => rfl
  | p :: l => by
    simp only [ksA, List.map_cons, look?, getA, Sum.inr.injEq]
    by_cases h : p.1 = k
    · simp [h]
    · rw [if_neg h, if_neg h]
      exact look_A f k l
theorem dget_A {α : Type} (f : α → PV) (l : List (Str × α)) (k : Str) : dget (eDct f l) (.str k) = some ((getA l k).map f) := by
  show some (look? (ksA l) (l.map fun p => f p.2) (Sum.inr k)) = _
  rw [look_A]
theorem idx_A {α : Type} {f : α → PV} {l : List (Str × α)} {k : Str} {v : α} (h : getA l k = some v) : idxV (eDct f l) (.str k) = some (f v) := by
  show (match dget (eDct f l) (.str k) with | some o => o | none => none) = _
  rw [dget_A, h]
  rfl
theorem hasK_A {α : Type} (k : Str) : ∀ l : List (Str × α), hasK (ksA l) (Sum.inr k) = l.any fun p => decide (p.1 = k)
  | [] => rfl
  | p :: l => by
    have := hasK_A k l
    unfold hasK at this ⊢
    simp only [ksA, List.map_cons, List.any_cons, Sum.inr.injEq] at this ⊢
    rw [this]
theorem rep_A {α : Type} (f : α → PV) (k : Str) (v : α) : ∀ l : List (Str × α), repVs (ksA l) (l.map fun p => f p.2) (Sum.inr k) (f v) = (l.map fun p => if p.1 = k then (p.1, v) else p).map fun p => f p.2
  | [] => rfl
  | p :: l => by
    have := rep_A f k v l
    simp only [ksA, List.map_cons, repVs, Sum.inr.injEq] at this ⊢
    rw [this]
    by_cases h : p.1 = k <;> simp [h]
theorem put_A {α : Type} (f : α → PV) {l : List (Str × α)} (k : Str) (v : α) (hl : l.length < sz) : putC (cDct f l) (.str k) (f v) = some (cDct f (putA l k v)) := by
  show (if (ksA l).length < sz then some (Ct.k (putKs (ksA l) (Sum.inr k)) (putVs (ksA l) (l.map fun p => f p.2) (Sum.inr k) (f v))) else none) = _
  rw [if_pos (by simpa [ksA] using hl)]
  unfold putKs putVs putA
  rw [hasK_A]
  by_cases h : (l.any fun p => decide (p.1 = k)) = true
  · simp only [if_pos h, rep_A]
    unfold cDct ksA
    congr 2
    rw [List.map_map]
    refine List.map_congr_left fun p _ => ?_
    by_cases e : p.1 = k <;> simp [e]
  · simp only [if_neg h]
    unfold cDct ksA
    simp
theorem putA_keys {α : Type} {l : List (Str × α)} {k : Str} {v : α} (h : k ∈ l.map (·.1)) : (putA l k v).map (·.1) = l.map (·.1) := by
  unfold putA
  have : (l.any fun p => decide (p.1 = k)) = true := by
    obtain ⟨p, hp, e⟩ := List.mem_map.mp h
    exact List.any_eq_true.mpr ⟨p, hp, by simpa using e⟩
  rw [if_pos this, List.map_map]
  refine List.map_congr_left fun p _ => ?_
  by_cases e : p.1 = k <;> simp [e]
theorem putA_new {α : Type} {l : List (Str × α)} {k : Str} {v : α} (h : k ∉ l.map (·.1)) : putA l k v = l ++ [(k, v)] := by
  unfold putA
  rw [if_neg]
  intro q
  obtain ⟨p, hp, e⟩ := List.any_eq_true.mp q
  exact h (List.mem_map.mpr ⟨p, hp, by simpa using e⟩)
theorem getA_mem {α : Type} {k : Str} : ∀ {l : List (Str × α)}, k ∈ l.map (·.1) → ∃ v, getA l k = some v
  | p :: l, h => by
    simp only [getA]
    by_cases e : p.1 = k
    · exact ⟨p.2, if_pos e⟩
    · rw [if_neg e]
      simp at h
      rcases h with h | h
      · exact absurd h.symm e
      · exact getA_mem (by simpa using h)
theorem getA_put {α : Type} {k q : Str} {v : α} : ∀ {l : List (Str × α)}, getA (putA l k v) q = if q = k then some v else getA l q := by
  have key : ∀ l : List (Str × α), k ∈ l.map (·.1) → getA (l.map fun p => if p.1 = k then (p.1, v) else p) q = if q = k then some v else getA l q := by
    intro l
    induction l with
    | nil => intro h; simp at h
    | cons p l ih =>
      intro h
      simp only [List.map_cons, getA]
      by_cases e : p.1 = k
      · simp only [e, if_true]
        by_cases e2 : k = q
        · simp [e2]
        · have e3 : ¬ q = k := fun z => e2 z.symm
          simp only [if_neg e2, if_neg e3]
          by_cases hm : k ∈ l.map (·.1)
          · rw [ih hm, if_neg e3]
          · congr 1
            refine (List.map_congr_left fun p hp => ?_).trans (List.map_id _)
            have : ¬ p.1 = k := fun z => hm (List.mem_map.mpr ⟨p, hp, z⟩)
            simp [this]
      · simp only [if_neg e]
        by_cases e2 : p.1 = q
        · have e3 : ¬ q = k := fun z => e (e2.trans z)
          simp [e2, e3]
        · simp only [if_neg e2]
          exact ih (by simp at h; rcases h with h | h; exact absurd h.symm e; simpa using h)
  intro l
  by_cases h : k ∈ l.map (·.1)
  · unfold putA
    have : (l.any fun p => decide (p.1 = k)) = true := by
      obtain ⟨p, hp, e⟩ := List.mem_map.mp h
      exact List.any_eq_true.mpr ⟨p, hp, by simpa using e⟩
    rw [if_pos this]
    exact key l h
  · rw [putA_new h]
    have app : ∀ l : List (Str × α), k ∉ l.map (·.1) → getA (l ++ [(k, v)]) q = if q = k then some v else getA l q := by
      intro l
      induction l with
      | nil =>
        intro _
        simp only [List.nil_append, getA]
        by_cases e : q = k
        · subst e
          simp
        · rw [if_neg (fun z : k = q => e z.symm), if_neg e]
      | cons p l ih =>
        intro h
        simp at h
        simp only [List.cons_append, getA]
        by_cases e : p.1 = q
        · have : ¬ q = k := fun z => h.1 (by rw [← z, e])
          simp [e, this]
        · simp only [if_neg e]
          exact ih (by simpa using h.2)
    exact app l h
/-! ### loops by what holds at each turn -/
theorem loopF_inv {α σ : Type} {enc : α → PV} {kil : List Nat} {f : PV → S} {mk : σ → Ev} {W : Om} {I : List α → σ → Prop} : ∀ {l : List α} {s : σ}, I l s → (∀ s x l, I (x :: l) s → ∃ s', lstep kil (f (enc x) (mk s) W) = .ok .nx (mk s') W ∧ I l s') → ∃ s', loopF kil f (l.map enc) (mk s) W = .ok .nx (mk s') W ∧ I [] s'
  | [], s, h0, _ => ⟨s, rfl, h0⟩
  | x :: l, s, h0, h => by
    obtain ⟨s', h1, h2⟩ := h s x l h0
    rw [List.map_cons, loopF_cons_nx h1]
    exact loopF_inv h2 h
theorem for_inv {α σ : Type} (I : List α → σ → Prop) (l : List α) (enc : α → PV) (mk : σ → Ev) (s0 : σ) {T : Tb} {tg : CT} {k : IK} {es : List CE} {body : List CS} {kil : List Nat} {env : Ev} {W : Om} (hi : itO T k es false env W = .ok (l.map enc) W) (h0 : env = mk s0) (hI : I l s0)
    (hx : ∀ s x l, I (x :: l) s → ∃ s', lstep kil (turnF tg (exs T body) (enc x) (mk s) W) = .ok .nx (mk s') W ∧ I l s') : ∃ s', ex T (.fr tg k es body kil) env W = .ok .nx (mk s') W ∧ I [] s' := by
  rw [ex_fr_of hi, h0]
  exact loopF_inv hI hx
/-- pair by pair -/
inductive F2 {α β : Type} (P : α → β → Prop) : List α → List β → Prop
  | nil : F2 P [] []
  | cons {x : α} {y : β} {l : List α} {m : List β} : P x y → F2 P l m → F2 P (x :: l) (y :: m)
theorem F2.len {α β : Type} {P : α → β → Prop} : ∀ {l : List α} {m : List β}, F2 P l m → m.length = l.length
  | _, _, .nil => rfl
  | _, _, .cons _ h => by simp [h.len]
theorem F2.get {α β : Type} {P : α → β → Prop} : ∀ {l : List α} {m : List β}, F2 P l m → ∀ {i : Nat} {x : α} {y : β}, l[i]? = some x → m[i]? = some y → P x y
  | _, _, .nil, i, x, y, h, _ => by simp at h
  | _, _, .cons h _, 0, x, y, h1, h2 => by
    simp at h1 h2
    rwa [← h1, ← h2]
  | _, _, .cons _ h, i + 1, x, y, h1, h2 => h.get (by simpa using h1) (by simpa using h2)
theorem F2.imp {α β : Type} {P Q : α → β → Prop} : ∀ {l : List α} {m : List β}, F2 P l m → (∀ x y, x ∈ l → P x y → Q x y) → F2 Q l m
  | _, _, .nil, _ => .nil
  | _, _, .cons h t, f => .cons (f _ _ (by simp) h) (t.imp fun x y hx => f x y (by simp [hx]))
theorem F2.app {α β : Type} {P : α → β → Prop} : ∀ {l l' : List α} {m m' : List β}, F2 P l m → F2 P l' m' → F2 P (l ++ l') (m ++ m')
  | _, _, _, _, .nil, h => h
  | _, _, _, _, .cons h t, h' => .cons h (t.app h')
theorem F2.snd {α β : Type} {P : α → β → Prop} : ∀ {l : List α} {m : List β}, F2 P l m → ∀ y ∈ m, ∃ x ∈ l, P x y
  | _, _, .nil, y, h => by simp at h
  | _, _, .cons (x := x) h t, y, hy => by
    rcases List.mem_cons.mp hy with e | e
    · exact ⟨x, by simp, e ▸ h⟩
    · obtain ⟨z, hz, q⟩ := t.snd y e
      exact ⟨z, by simp [hz], q⟩
theorem F2.unmap {α γ β : Type} {f : γ → α} {P : α → β → Prop} : ∀ {l : List γ} {m : List β}, F2 P (l.map f) m → F2 (fun x y => P (f x) y) l m
  | [], m, h => by cases h; exact .nil
  | x :: l, m, h => by
    cases h with
    | cons h t => exact .cons h t.unmap
theorem loopC_ex {α β : Type} {enc : α → PV} {f : PV → Om → Out (Option PV)} {enc2 : β → PV} {P : α → β → Prop} {W : Om} : ∀ {xs : List α}, (∀ x ∈ xs, ∃ y, f (enc x) W = .ok (some (enc2 y)) W ∧ P x y) → ∃ ys : List β, loopC f (xs.map enc) W = .ok (ys.map enc2) W ∧ F2 P xs ys
  | [], _ => ⟨[], rfl, .nil⟩
  | x :: xs, h => by
    obtain ⟨y, h1, h2⟩ := h x List.mem_cons_self
    obtain ⟨ys, h3, h4⟩ := loopC_ex (enc := enc) (f := f) (enc2 := enc2) (P := P) (W := W) (xs := xs) fun z hz => h z (List.mem_cons_of_mem _ hz)
    refine ⟨y :: ys, ?_, .cons h2 h4⟩
    simp only [List.map_cons, loopC, h1, Out.bind_ok, h3]
/-- [e for x in l], item by item -/
theorem comp_ex {α β : Type} (l : List α) (enc : α → PV) (enc2 : β → PV) (P : α → β → Prop) {T : Tb} {e : CE} {tg : CT} {k : IK} {es c : List CE} {own : List (Str × Nat)} {env : Ev} {W : Om} (hi : itO T k es (pureEs T.pu es && (pureE T.pu e && pureEs T.pu c)) env W = .ok (l.map enc) W) (hl : l.length ≤ sz)
    (hx : ∀ x ∈ l, ∃ y, turnC (ev T e) tg (evl T c) (own.map (·.2)) env (enc x) W = .ok (some (enc2 y)) W ∧ P x y) : ∃ ys : List β, ev T (.comp e tg k es c own) env W = .ok (.fre (.l (ys.map enc2))) W ∧ F2 P l ys := by
  obtain ⟨rs, h1, h2, h3⟩ := itO_ok hi
  obtain ⟨ys, h4, h5⟩ := loopC_ex hx
  refine ⟨ys, ?_, h5⟩
  show evComp (ev T e) tg k (evl T es) (evl T c) (own.map (·.2)) _ _ env W = _
  unfold evComp
  rw [h1]
  simp only [Out.bind_ok]
  rw [if_pos h2, h3]
  simp only [List.length_map, hl, if_true]
  rw [h4, Out.bind_ok]
theorem F2.map {α γ β : Type} {f : γ → α} {P : α → β → Prop} : ∀ {l : List γ} {m : List β}, F2 (fun x y => P (f x) y) l m → F2 P (l.map f) m
  | _, _, .nil => .nil
  | _, _, .cons h t => .cons h t.map
/-! own lists and dicts made values -/
def frz1 (o : Option Sl) (i : Nat) (env : Ev) (is : List Nat) : Option Ev := match o with
  | some (.own c) => frzE (env.set i (.val c.pv)) is
  | some (.val _) => frzE env is
  | _ => none
@[simp] theorem frz1_own (c : Ct) (i : Nat) (env : Ev) (is : List Nat) : frz1 (some (.own c)) i env is = frzE (env.set i (.val c.pv)) is := (rfl)
@[simp] theorem frz1_val (v : PV) (i : Nat) (env : Ev) (is : List Nat) : frz1 (some (.val v)) i env is = frzE env is := (rfl)
@[simp] theorem frzE_nil (env : Ev) : frzE env [] = some env := (rfl)
set_option smartUnfolding false in
@[simp] theorem frzE_cons (env : Ev) (i : Nat) (is : List Nat) : frzE env (i :: is) = frz1 env[i]? i env is := (rfl)
set_option smartUnfolding false in
@[simp] theorem ex_frz {T : Tb} (is : List Nat) (s : CS) (env : Ev) (W : Om) : ex T (.frz is s) env W = optS (frzE env is) fun env' => ex T s env' W := (rfl)
/-! the greatest -/
theorem asInts_map : ∀ ys : List Int, asInts (ys.map .int) = some ys
  | [] => rfl
  | y :: ys => by simp only [List.map_cons, asInts, asInts_map ys]
theorem fold_max {B : Int} : ∀ (l : List Int) (a : Int), a ≤ B → (∀ x ∈ l, x ≤ B) → a ≤ l.foldl (fun a b => if b > a then b else a) a ∧ l.foldl (fun a b => if b > a then b else a) a ≤ B ∧ ∀ x ∈ l, x ≤ l.foldl (fun a b => if b > a then b else a) a
  | [], a, h, _ => ⟨Int.le_refl _, h, by simp⟩
  | y :: l, a, h, hl => by
    have hy := hl y (by simp)
    have q : (if y > a then y else a) ≤ B := by split <;> assumption
    obtain ⟨h1, h2, h3⟩ := fold_max l (if y > a then y else a) q fun x hx => hl x (by simp [hx])
    rw [List.foldl_cons]
    have b1 : a ≤ (if y > a then y else a) := by split <;> omega
    have b2 : y ≤ (if y > a then y else a) := by split <;> omega
    refine ⟨Int.le_trans b1 h1, h2, fun x hx => ?_⟩
    rcases List.mem_cons.mp hx with rfl | hx
    · exact Int.le_trans b2 h1
    · exact h3 x hx
theorem max_of (x : Int) (l : List Int) {B : Int} (h : ∀ y ∈ x :: l, y ≤ B) : ∃ m : Int, bltV .max [.lst (.int x :: l.map .int)] = some (.val (.int m)) ∧ m ≤ B ∧ ∀ y ∈ x :: l, y ≤ m := by
  obtain ⟨h1, h2, h3⟩ := fold_max l x (h x (by simp)) fun y hy => h y (by simp [hy])
  refine ⟨_, ?_, h2, fun y hy => ?_⟩
  · show (match asInts (.int x :: l.map PV.int) with | some l => (match maxI l with | some m => some (R.val (.int m)) | none => none) | none => none) = _
    have : asInts (.int x :: l.map PV.int) = some (x :: l) := asInts_map (x :: l)
    rw [this]
    rfl
  · rcases List.mem_cons.mp hy with rfl | hy
    · exact h1
    · exact h3 y hy
/-! ### stores that are whole -/
def eIs (l : List Int) : PV := .lst (l.map .int)
@[simp] theorem len_is (l : List Int) : lenV (eIs l) = some l.length := by simp [eIs]
def txtOk (x : Str) : Bool := decide (x.length ≤ 8) && x.cps.toList.all fun c => decide (32 ≤ c) && decide (c ≤ 126)
def VOk (kd : List (Str × List Int)) : Srt → Vl → Prop
  | .num, .int i => -9999 ≤ i ∧ i ≤ 9999
  | .text, .str x => txtOk x = true
  | .link _ m _, .non => m = true
  | .link x _ _, .int i => ∃ ks, getA kd x = some ks ∧ i ∈ ks
  | _, _ => False
theorem VOk.imp {kd kd' : List (Str × List Int)} (h : ∀ x ks, getA kd x = some ks → ∃ ks', getA kd' x = some ks' ∧ ∀ i ∈ ks, i ∈ ks') : ∀ {s : Srt} {v : Vl}, VOk kd s v → VOk kd' s v
  | .num, .int _, q => q
  | .text, .str _, q => q
  | .link _ _ _, .non, q => q
  | .link x _ _, .int i, ⟨ks, h1, h2⟩ => by
    obtain ⟨ks', h3, h4⟩ := h x ks h1
    exact ⟨ks', h3, h4 i h2⟩
  | .num, .non, q => q.elim
  | .num, .str _, q => q.elim
  | .text, .non, q => q.elim
  | .text, .int _, q => q.elim
  | .link _ _ _, .str _, q => q.elim
def keysOf (s : Shf) : List Int := s.2.map (·.1)
def keysD (S : Sch) (st : Sto) : List (Str × List Int) := S.map fun k => (k.1, keysOf (shelfOf S st k.1))
structure SchOk (S : Sch) : Prop where
  nd : (names S).Nodup
  l1 : 1 ≤ S.length
  l4 : S.length ≤ 4
  fl : ∀ k ∈ S, 1 ≤ k.2.length ∧ k.2.length ≤ 5
  lk : ∀ k ∈ S, ∀ f ∈ k.2, ∀ x m r, f.2 = .link x m r → x ∈ names S
structure RowOk (kd : List (Str × List Int)) (k : Knd) (r : Row) : Prop where
  ver : 1 ≤ r.2.1
  vals : F2 (fun f v => VOk kd f.2 v) k.2 r.2.2
structure ShfOk (kd : List (Str × List Int)) (k : Knd) (s : Shf) : Prop where
  asc : (keysOf s).Pairwise (· < ·)
  pos : ∀ i ∈ keysOf s, 1 ≤ i
  nxt : ∀ i ∈ keysOf s, i < s.1
  one : 1 ≤ s.1
  rows : ∀ r ∈ s.2, RowOk kd k r
structure StoOk (S : Sch) (st : Sto) : Prop where
  len : st.length = S.length
  shf : ∀ k ∈ S, ShfOk (keysD S st) k (shelfOf S st k.1)
/-- .. and not big -/
structure StoSm (st : Sto) (m : Nat) : Prop where
  rows : ∀ s ∈ st, s.2.length ≤ m
  nxt : ∀ s ∈ st, s.1 ≤ 2 * (m : Int) + 2
  ver : ∀ s ∈ st, ∀ r ∈ s.2, r.2.1 ≤ 3
theorem getA_map {α : Type} (f : Str → α) {k : Str} : ∀ {S : Sch}, k ∈ names S → getA (S.map fun q => (q.1, f q.1)) k = some (f k)
  | [], h => by simp [names] at h
  | q :: S, h => by
    simp only [List.map_cons, getA]
    by_cases e : q.1 = k
    · simp [e]
    · rw [if_neg e]
      exact getA_map f (by
        simp [names] at h ⊢
        rcases h with h | h
        · exact absurd h.symm e
        · exact h)
theorem keysD_get {S : Sch} {st : Sto} {k : Str} (h : k ∈ names S) : getA (keysD S st) k = some (keysOf (shelfOf S st k)) := getA_map (fun x => keysOf (shelfOf S st x)) h
theorem getA_keys {α : Type} {k : Str} {v : α} : ∀ {l : List (Str × α)}, getA l k = some v → (k, v) ∈ l
  | [], h => by cases h
  | p :: l, h => by
    simp only [getA] at h
    split at h
    · rename_i e
      cases h
      simp [← e]
    · simp [getA_keys h]
theorem F2.shelf {P : Knd → Shf → Prop} {S : Sch} {st : Sto} (h : F2 P S st) (nd : (names S).Nodup) : ∀ k ∈ S, P k (shelfOf S st k.1) := fun k hk => by
  obtain ⟨i, hi⟩ := List.mem_iff_getElem?.mp hk
  have e : ix k.1 (names S) = i := ix_of nd (by unfold names; rw [List.getElem?_map, hi]; rfl)
  have h2 := sto_at (st := st) h.len (mem_names hk)
  rw [e] at h2
  exact h.get hi h2
/-- kept while it was drawn -/
theorem sto_of {kd : List (Str × List Int)} {S : Sch} {st : Sto} (nd : (names S).Nodup) (hk : kd.map (·.1) = names S) (h : F2 (fun k s => getA kd k.1 = some (keysOf s) ∧ ShfOk kd k s) S st) : StoOk S st := by
  have hs := h.shelf nd
  refine ⟨h.len, fun k hkS => ?_⟩
  obtain ⟨_, h2⟩ := hs k hkS
  refine ⟨h2.asc, h2.pos, h2.nxt, h2.one, fun r hr => ⟨(h2.rows r hr).ver, (h2.rows r hr).vals.imp fun f v _ => VOk.imp fun x ks hx => ?_⟩⟩
  have hxn : x ∈ names S := by
    rw [← hk]
    exact List.mem_map.mpr ⟨_, getA_keys hx, rfl⟩
  refine ⟨_, keysD_get hxn, fun i hi => ?_⟩
  unfold names at hxn
  obtain ⟨q, hq, rfl⟩ := List.mem_map.mp hxn
  have := (hs q hq).1
  rw [hx] at this
  cases this
  exact hi
/-! ### the first that fits -/
theorem loopF_find {α : Type} {enc : α → PV} {kil : List Nat} {f : PV → S} {env : Ev} {W : Om} {p : α → Bool} {ret : α → R} : ∀ {l : List α}, (∀ x ∈ l, p x = false → lstep kil (f (enc x) env W) = .ok .nx env W) → (∀ x ∈ l, p x = true → ∃ e, lstep kil (f (enc x) env W) = .ok (.ret (ret x)) e W) →
    match l.find? p with
    | none => loopF kil f (l.map enc) env W = .ok .nx env W
    | some x => ∃ e, loopF kil f (l.map enc) env W = .ok (.ret (ret x)) e W
  | [], _, _ => rfl
  | x :: l, h1, h2 => by
    rw [List.find?_cons]
    cases q : p x with
    | true =>
      obtain ⟨e, he⟩ := h2 x (by simp) q
      simp only
      exact ⟨e, by rw [List.map_cons, loopF_cons_ret he]⟩
    | false =>
      have := loopF_find (l := l) (enc := enc) (kil := kil) (f := f) (env := env) (W := W) (p := p) (ret := ret) (fun y hy => h1 y (by simp [hy])) fun y hy => h2 y (by simp [hy])
      simp only
      rw [List.map_cons, loopF_cons_nx (h1 x (by simp) q)]
      exact this
theorem for_find {α : Type} (l : List α) (enc : α → PV) (p : α → Bool) (ret : α → R) {T : Tb} {tg : CT} {k : IK} {es : List CE} {body : List CS} {kil : List Nat} {env : Ev} {W : Om} (hi : itO T k es false env W = .ok (l.map enc) W)
    (h1 : ∀ x ∈ l, p x = false → lstep kil (turnF tg (exs T body) (enc x) env W) = .ok .nx env W) (h2 : ∀ x ∈ l, p x = true → ∃ e, lstep kil (turnF tg (exs T body) (enc x) env W) = .ok (.ret (ret x)) e W) :
    match l.find? p with
    | none => ex T (.fr tg k es body kil) env W = .ok .nx env W
    | some x => ∃ e, ex T (.fr tg k es body kil) env W = .ok (.ret (ret x)) e W := by
  rw [ex_fr_of hi]
  exact loopF_find h1 h2
theorem exs_exc {T : Tb} {s : CS} {ss : List CS} {env env' : Ev} {W W' : Om} {c : Nat} (h : ex T s env W = .exc c env' W') : exs T (s :: ss) env W = .exc c env' W' := by
  cases ss with
  | nil => rw [exs_one, h]
  | cons t ss => rw [exs_cons, h]; rfl
theorem filterMap_if {α β : Type} (p : α → Bool) (f : α → β) : ∀ l : List α, (l.filterMap fun x => if p x = true then some (f x) else none) = (l.filter p).map f
  | [] => rfl
  | x :: l => by
    rw [List.filterMap_cons, List.filter_cons, filterMap_if p f l]
    cases p x <;> rfl
theorem flatMap_len {α β : Type} {f : α → List β} {b : Nat} : ∀ {l : List α}, (∀ x ∈ l, (f x).length ≤ b) → (l.flatMap f).length ≤ l.length * b
  | [], _ => by simp
  | x :: l, h => by
    have h1 := h x (by simp)
    have h2 := flatMap_len (l := l) fun y hy => h y (by simp [hy])
    rw [List.flatMap_cons, List.length_append, List.length_cons, Nat.add_mul, Nat.one_mul]
    omega
/-! ### what links lead to a row -/
def lk1 (kind : Str) (key : Int) (nm : Str) (rk : Int) (f : Fld) (v : Vl) : List PV := match f.2 with
  | .link x _ _ => if x = kind ∧ v = .int key then [.tup [.str nm, .int rk, .str f.1]] else []
  | _ => []
def lkR (kind : Str) (key : Int) (nm : Str) (fs : List Fld) (r : Row) : List PV := (fs.zip r.2.2).flatMap fun p => lk1 kind key nm r.1 p.1 p.2
def lkK (S : Sch) (st : Sto) (kind : Str) (key : Int) (k : Knd) : List PV := (shelfOf S st k.1).2.flatMap fun r => lkR kind key k.1 k.2 r
def linksV (S : Sch) (st : Sto) (kind : Str) (key : Int) : List PV := S.flatMap fun k => lkK S st kind key k
theorem lk1_len (kind : Str) (key : Int) (nm : Str) (rk : Int) (f : Fld) (v : Vl) : (lk1 kind key nm rk f v).length ≤ 1 := by
  unfold lk1
  split
  · split <;> simp
  · simp
theorem lk1_tl {kind : Str} {key : Int} {nm : Str} {rk : Int} {f : Fld} {v : Vl} : ∀ x ∈ lk1 kind key nm rk f v, ∃ a b c, x = .tup [.str a, .int b, .str c] := by
  intro x hx
  unfold lk1 at hx
  split at hx
  · split at hx
    · simp at hx
      exact ⟨_, _, _, hx⟩
    · simp at hx
  · simp at hx
theorem linksV_tl {S : Sch} {st : Sto} {kind : Str} {key : Int} : ∀ x ∈ linksV S st kind key, ∃ a b c, x = .tup [.str a, .int b, .str c] := by
  intro x hx
  unfold linksV at hx
  obtain ⟨k, _, hx⟩ := List.mem_flatMap.mp hx
  unfold lkK at hx
  obtain ⟨r, _, hx⟩ := List.mem_flatMap.mp hx
  unfold lkR at hx
  obtain ⟨p, _, hx⟩ := List.mem_flatMap.mp hx
  exact lk1_tl x hx
theorem shelfOf_mem {S : Sch} {st : Sto} (hl : st.length = S.length) {k : Str} (h : k ∈ names S) : shelfOf S st k ∈ st := List.mem_of_getElem? (sto_at hl h)
theorem linksV_len {S : Sch} {st : Sto} {m : Nat} (ok : SchOk S) (so : StoOk S st) (sm : StoSm st m) (kind : Str) (key : Int) : (linksV S st kind key).length ≤ 4 * (m * 5) := by
  have h := flatMap_len (l := S) (f := fun k => lkK S st kind key k) (b := m * 5) fun k hk => by
    have h2 := flatMap_len (l := (shelfOf S st k.1).2) (f := fun r => lkR kind key k.1 k.2 r) (b := 5) fun r hr => by
      have h3 := flatMap_len (l := k.2.zip r.2.2) (f := fun p => lk1 kind key k.1 r.1 p.1 p.2) (b := 1) fun p _ => lk1_len _ _ _ _ _ _
      have h4 := (ok.fl k hk).2
      have h5 : (k.2.zip r.2.2).length ≤ 5 := by rw [List.length_zip]; omega
      unfold lkR
      omega
    have h6 := sm.rows _ (shelfOf_mem so.len (mem_names hk))
    exact Nat.le_trans h2 (Nat.mul_le_mul_right 5 h6)
  exact Nat.le_trans h (Nat.mul_le_mul_right _ ok.l4)
theorem lkR_idx {kind : Str} {key : Int} {nm : Str} {rk : Int} : ∀ {fs : List Fld} {vs : List Vl} (n : Nat) (ws : List Vl), vs.length = fs.length → ws.length = n → ((fs.zipIdx n).flatMap fun p => lk1 kind key nm rk p.1 ((ws ++ vs).getD p.2 .non)) = (fs.zip vs).flatMap fun p => lk1 kind key nm rk p.1 p.2
  | [], _, _, _, _, _ => by simp
  | _ :: _, [], _, _, h, _ => by simp at h
  | f :: fs, v :: vs, n, ws, h, hn => by
    have ih := lkR_idx (kind := kind) (key := key) (nm := nm) (rk := rk) (fs := fs) (vs := vs) (n + 1) (ws ++ [v]) (by simpa using h) (by simp [hn])
    rw [List.zipIdx_cons, List.flatMap_cons, List.zip_cons_cons, List.flatMap_cons, ← ih]
    congr 1
    · have : (ws ++ v :: vs).getD n .non = v := by
        subst hn
        simp
      simp only [this]
    · rw [List.append_assoc]
      rfl
def isL : Srt → Bool
  | .link _ _ _ => true
  | _ => false
theorem lk1_not {kind : Str} {key : Int} {nm : Str} {rk : Int} {f : Fld} (v : Vl) (h : isL f.2 = false) : lk1 kind key nm rk f v = [] := by
  unfold lk1
  cases q : f.2 with
  | link x m r => rw [q] at h; cases h
  | num => rfl
  | text => rfl
theorem flatMap_filter {α β : Type} {p : α → Bool} {g : α → List β} (h : ∀ x, p x = false → g x = []) : ∀ l : List α, (l.filter p).flatMap g = l.flatMap g
  | [] => rfl
  | x :: l => by
    rw [List.filter_cons]
    cases q : p x with
    | true => simp [flatMap_filter h l]
    | false => simp [flatMap_filter h l, h x q]
theorem lkR_filter {kind : Str} {key : Int} {nm : Str} {fs : List Fld} {r : Row} (h : r.2.2.length = fs.length) : ((fs.zipIdx.filter fun p => isL p.1.2).flatMap fun p => lk1 kind key nm r.1 p.1 (r.2.2.getD p.2 .non)) = lkR kind key nm fs r := by
  rw [flatMap_filter fun p hp => lk1_not _ hp]
  exact lkR_idx 0 [] h rfl
/-! ### lists of one form, sorted -/
theorem sort_tl {xs : List PV} (h : ∀ x ∈ xs, ∃ a b c, x = PV.tup [.str a, .int b, .str c]) (hl : xs.length ≤ sz) : bltV .sortedD [.lst xs] = some (.fre (.l (xs.mergeSort leD))) := by
  have h1 : dats 20 xs = true := by
    have : ∀ ys : List PV, (∀ x ∈ ys, x ∈ xs) → dats 20 ys = true := by
      intro ys
      induction ys with
      | nil => intro _; simp [dats]
      | cons y ys ih =>
        intro hy
        obtain ⟨a, b, c, rfl⟩ := h y (hy y (by simp))
        simp only [dats, Bool.and_eq_true]
        exact ⟨by simp [dat, dats], ih fun z hz => hy z (by simp [hz])⟩
    exact this xs fun _ h => h
  have h2 : allAlk xs = true := by
    unfold allAlk
    refine List.all_eq_true.mpr fun x hx => List.all_eq_true.mpr fun y hy => ?_
    obtain ⟨a, b, c, rfl⟩ := h x hx
    obtain ⟨a', b', c', rfl⟩ := h y hy
    simp [alk, alks]
  have h3 : srtb xs = true := by
    unfold srtb
    refine Bool.or_eq_true .. |>.mpr (.inl (List.all_eq_true.mpr fun x hx => ?_))
    obtain ⟨a, b, c, rfl⟩ := h x hx
    rfl
  show (if dats 20 xs && allAlk xs && srtb xs && decide (xs.length ≤ sz) then some (R.fre (.l (xs.mergeSort leD))) else none) = _
  rw [h1, h2, h3, if_pos (by simpa using hl)]
theorem dat_tl {xs : List PV} (h : ∀ x ∈ xs, ∃ a b c, x = PV.tup [.str a, .int b, .str c]) : dat 60 (.lst xs) = true := by
  simp only [dat]
  have : ∀ ys : List PV, (∀ x ∈ ys, x ∈ xs) → dats 59 ys = true := by
    intro ys
    induction ys with
    | nil => intro _; simp [dats]
    | cons y ys ih =>
      intro hy
      obtain ⟨a, b, c, rfl⟩ := h y (hy y (by simp))
      simp only [dats, Bool.and_eq_true]
      exact ⟨by simp [dat, dats], ih fun z hz => hy z (by simp [hz])⟩
  exact this xs fun _ h => h
theorem dat_sorted {xs : List PV} (h : ∀ x ∈ xs, ∃ a b c, x = PV.tup [.str a, .int b, .str c]) : dat 60 (.lst (xs.mergeSort leD)) = true := dat_tl fun x hx => h x (List.mem_mergeSort.mp hx)
/-! what is pure, of each form -/
section
variable (p : Nat → Bool)
@[simp] theorem pureE_non : pureE p .non = true := by simp only [pureE]
@[simp] theorem pureE_bl (b : Bool) : pureE p (.bl b) = true := by simp only [pureE]
@[simp] theorem pureE_glb (x : Str) (v : PV) : pureE p (.glb x v) = true := by simp only [pureE]
@[simp] theorem pureE_tup (es : List CE) : pureE p (.tup es) = pureEs p es := by simp only [pureE]
@[simp] theorem pureE_lst (es : List CE) : pureE p (.lst es) = pureEs p es := by simp only [pureE]
@[simp] theorem pureE_and (es : List CE) : pureE p (.and es) = pureEs p es := by simp only [pureE]
@[simp] theorem pureE_or (es : List CE) : pureE p (.or es) = pureEs p es := by simp only [pureE]
@[simp] theorem pureE_blt (f : BF) (es : List CE) : pureE p (.blt f es) = pureEs p es := by simp only [pureE]
@[simp] theorem pureE_cmp (o : CO) (a b : CE) : pureE p (.cmp o a b) = (pureE p a && pureE p b) := by simp only [pureE]
@[simp] theorem pureE_slL (a b : CE) : pureE p (.slL a b) = (pureE p a && pureE p b) := by simp only [pureE]
@[simp] theorem pureE_slH (a b : CE) : pureE p (.slH a b) = (pureE p a && pureE p b) := by simp only [pureE]
@[simp] theorem pureE_cmp2 (o o' : CO) (a b c : CE) : pureE p (.cmp2 o o' a b c) = (pureE p a && (pureE p b && pureE p c)) := by simp only [pureE]
@[simp] theorem pureE_ite (a b c : CE) : pureE p (.ite a b c) = (pureE p a && (pureE p b && pureE p c)) := by simp only [pureE]
@[simp] theorem pureE_slB (a b c : CE) : pureE p (.slB a b c) = (pureE p a && (pureE p b && pureE p c)) := by simp only [pureE]
@[simp] theorem pureE_isN (a : CE) : pureE p (.isN a) = pureE p a := by simp only [pureE]
@[simp] theorem pureE_notN (a : CE) : pureE p (.notN a) = pureE p a := by simp only [pureE]
@[simp] theorem pureE_isB (b : Bool) (a : CE) : pureE p (.isB b a) = pureE p a := by simp only [pureE]
@[simp] theorem pureE_notB (b : Bool) (a : CE) : pureE p (.notB b a) = pureE p a := by simp only [pureE]
@[simp] theorem pureE_not (a : CE) : pureE p (.not a) = pureE p a := by simp only [pureE]
@[simp] theorem pureE_rev (a : CE) : pureE p (.rev a) = pureE p a := by simp only [pureE]
@[simp] theorem pureE_neg (a : CE) : pureE p (.neg a) = pureE p a := by simp only [pureE]
@[simp] theorem pureE_isi (a : CE) (t : TY) : pureE p (.isi a t) = pureE p a := by simp only [pureE]
@[simp] theorem pureE_inT (b : Bool) (a : CE) (x : Str) (vs : List PV) : pureE p (.inT b a x vs) = pureE p a := by simp only [pureE]
@[simp] theorem pureE_comp (e : CE) (tg : CT) (k : IK) (es c : List CE) (own : List (Str × Nat)) : pureE p (.comp e tg k es c own) = (pureE p e && (pureEs p es && pureEs p c)) := by simp only [pureE]
@[simp] theorem pureE_dct (t : Bool) : pureE p (.dct t) = true := by simp only [pureE]
@[simp] theorem pureE_meth (m : MB) (a : CE) (es : List CE) : pureE p (.meth m a es) = (pureE p a && pureEs p es) := by simp only [pureE]
@[simp] theorem pureE_fld (a : CE) (f : Str) : pureE p (.fld a f) = pureE p a := by simp only [pureE]
@[simp] theorem pureE_mcall (f c : Nat) (a : CE) (m : Str) (es : List CE) : pureE p (.mcall f c a m es) = (p f && (pureE p a && pureEs p es)) := by simp only [pureE]
@[simp] theorem pureE_isx (a : CE) (x : Str) (c : Nat) : pureE p (.isx a x c) = pureE p a := by simp only [pureE]
end
/-! d[k] = [..]; if c: d[k].append(x) -/
theorem putA_ok {i : Nat} {fk fe fc fk2 fx : F} {env : Ev} {W : Om} {l : List (Str × List Int)} {k : Str} {xs : List Int} {b : Bool} {n : Int} (hi : env[i]? = some (.own (cDct eIs l))) (hl : l.length < sz) (hx : xs.length < sz)
    (he : fe env W = .ok (.fre (.l (xs.map .int))) W) (hk : fk env W = .ok (.val (.str k)) W)
    (hc : fc (env.set i (.own (cDct eIs (putA l k xs)))) W = .ok (.val (.bl b)) W)
    (hk2 : fk2 (env.set i (.own (cDct eIs (putA l k xs)))) W = .ok (.val (.str k)) W)
    (hv : fx (env.set i (.own (cDct eIs (putA l k xs)))) W = .ok (.val (.int n)) W) :
    xPutA i fk fe fc fk2 fx true env W = .ok .nx (env.set i (.own (cDct eIs (putA l k (if b = true then xs ++ [n] else xs))))) W := by
  have key : ∀ ys : List Int, Ct.k (putKs (ksA l) (Sum.inr k)) (putVs (ksA l) (l.map fun p => eIs p.2) (Sum.inr k) (.lst (ys.map .int))) = cDct eIs (putA l k ys) := fun ys => by
    have := put_A eIs (l := l) k ys hl
    have h2 : putC (cDct eIs l) (.str k) (eIs ys) = some (.k (putKs (ksA l) (Sum.inr k)) (putVs (ksA l) (l.map fun p => eIs p.2) (Sum.inr k) (eIs ys))) := by
      show (if (ksA l).length < sz then some (Ct.k (putKs (ksA l) (Sum.inr k)) (putVs (ksA l) (l.map fun p => eIs p.2) (Sum.inr k) (eIs ys))) else none) = _
      rw [if_pos (by simpa [ksA] using hl)]
    rw [this] at h2
    exact (Option.some.inj h2).symm
  have kx := key xs
  have ky := key (xs ++ [n])
  rw [List.map_append] at ky
  unfold xPutA
  rw [hi]
  simp only [cDct, he, Out.st_ok, hk, R.look_val, toKey]
  rw [if_pos (by simpa [ksA] using hl)]
  simp only [cDct] at kx ky hc hk2 hv
  rw [kx, hc]
  simp only [Out.st_ok]
  cases b with
  | false => simp [cDct]
  | true =>
    simp only [hk2, Out.st_ok, R.look_val, toKey, hv, if_true]
    simp only [flatA, Bool.true_and, decide_eq_true hx, List.length_map, Bool.and_true, if_true]
    rw [show [PV.int n] = List.map PV.int [n] from rfl, ky]
end D

/-! D23: writes; what the store is behind them. -/
namespace D
open PySem PySem.Spec PyProof.Rows L2
inductive Wr where
  | new (k : Str) (key : Int) (vs : List Vl) | chg (k : Str) (key ver : Int) (vs : List Vl) | drp (k : Str) (key ver : Int)
def Wr.kd : Wr → Str
  | .new k _ _ => k
  | .chg k _ _ _ => k
  | .drp k _ _ => k
def Wr.vs : Wr → List Vl
  | .new _ _ vs => vs
  | .chg _ _ _ vs => vs
  | .drp _ _ _ => []
def eWr : Wr → PV
  | .new k key vs => .tup [.str "new", .str k, .int key, eVls vs]
  | .chg k key ver vs => .tup [.str "change", .str k, .int key, .int ver, eVls vs]
  | .drp k key ver => .tup [.str "drop", .str k, .int key, .int ver]
/-- a row as it is given -/
def eGiv (r : Row) : PV := .tup [.int r.2.1, eVls r.2.2]
@[simp] theorem dat_giv (r : Row) (n : Nat) : dat (n + 2) (eGiv r) = true := by simp [eGiv, dat, dats]
def isKey (key : Int) (r : Row) : Bool := decide (r.1 = key)
def memV : Vl → List Int → Bool
  | .int i, ks => decide (i ∈ ks)
  | _, _ => false
theorem memV_cons (v : Vl) (k : Int) (ks : List Int) : memV v (k :: ks) = (decide (Vl.int k = v) || memV v ks) := by
  cases v with
  | non => rfl
  | str x => rfl
  | int i =>
    unfold memV
    rw [Bool.eq_iff_iff]
    simp only [decide_eq_true_eq, Bool.or_eq_true, List.mem_cons, Vl.int.injEq]
    exact or_congr_left eq_comm
theorem any_eqv (v : Vl) : ∀ ks : List Int, ((ks.map PV.int).any fun y => eqv y (eVl v)) = memV v ks
  | [] => by cases v <;> rfl
  | k :: ks => by
    have h : eqv (PV.int k) (eVl v) = decide (Vl.int k = v) := eqv_vl (.int k) v
    rw [List.map_cons, List.any_cons, any_eqv v ks, memV_cons, h]
@[simp] theorem inV_vl (v : Vl) (ks : List Int) : inV (eVl v) (.lst (ks.map .int)) = some (memV v ks) := by
  have h : (if dat 60 (eVl v) && dats 60 (ks.map PV.int) then some ((ks.map PV.int).any fun y => eqv y (eVl v)) else none) = some (memV v ks) := by
    rw [dat_vl, dats_map fun x _ => dat_int 60 x, any_eqv]
    rfl
  cases v <;> exact h
def leads1 (S : Sch) (st : Sto) (f : Fld) (v : Vl) : Bool := match f.2 with
  | .link x m _ => if v = .non then m else memV v (keysOf (shelfOf S st x))
  | _ => true
def leadsF (S : Sch) (st : Sto) (fs : List Fld) (vs : List Vl) : Bool := (fs.zip vs).all fun p => leads1 S st p.1 p.2
theorem leads_idx {S : Sch} {st : Sto} : ∀ {fs : List Fld} {vs : List Vl} (n : Nat) (ws : List Vl), vs.length = fs.length → ws.length = n → ((fs.zipIdx n).all fun p => leads1 S st p.1 ((ws ++ vs).getD p.2 .non)) = (fs.zip vs).all fun p => leads1 S st p.1 p.2
  | [], _, _, _, _, _ => by simp
  | _ :: _, [], _, _, h, _ => by simp at h
  | f :: fs, v :: vs, n, ws, h, hn => by
    have ih := leads_idx (S := S) (st := st) (fs := fs) (vs := vs) (n + 1) (ws ++ [v]) (by simpa using h) (by simp [hn])
    rw [List.zipIdx_cons, List.all_cons, List.zip_cons_cons, List.all_cons, ← ih]
    congr 1
    · have : (ws ++ v :: vs).getD n .non = v := by
        subst hn
        simp
      simp only [this]
    · rw [List.append_assoc]
      rfl
theorem all_filter {α : Type} {p g : α → Bool} (h : ∀ x, p x = false → g x = true) : ∀ l : List α, (l.filter p).all g = l.all g
  | [] => rfl
  | x :: l => by
    rw [List.filter_cons]
    cases q : p x with
    | true => simp [all_filter h l]
    | false => simp [all_filter h l, h x q]
def lfs (fs : List Fld) : List (Fld × Nat) := fs.zipIdx.filter fun p => isL p.1.2
theorem lfs_len (fs : List Fld) : (lfs fs).length ≤ fs.length := by
  have := List.length_filter_le (fun p : Fld × Nat => isL p.1.2) fs.zipIdx
  simpa [lfs] using this
theorem lfs_mem {fs : List Fld} {p : Fld × Nat} (h : p ∈ lfs fs) : fs[p.2]? = some p.1 ∧ isL p.1.2 = true := by
  obtain ⟨h1, h2⟩ := List.mem_filter.mp h
  refine ⟨?_, h2⟩
  have := List.mem_zipIdx' h1
  exact List.getElem?_eq_some_iff.mpr ⟨this.1, this.2.symm⟩
theorem leads_lfs {S : Sch} {st : Sto} {fs : List Fld} {vs : List Vl} (h : vs.length = fs.length) : ((lfs fs).all fun p => leads1 S st p.1 (vs.getD p.2 .non)) = leadsF S st fs vs := by
  unfold lfs
  rw [all_filter fun p hp => by
    unfold leads1
    cases q : p.1.2 with
    | link x m r => rw [q] at hp; cases hp
    | num => rfl
    | text => rfl]
  exact leads_idx 0 [] h rfl
def eLf (p : Fld × Nat) : PV := .tup [.int p.2, eSrt p.1.2]
@[simp] theorem bind_lf (ts : List CT) (p : Fld × Nat) (env : Ev) : bind (.tp ts) (eLf p) env = binds ts [.int p.2, eSrt p.1.2] env := by simp [eLf]
def setSh (S : Sch) (st : Sto) (k : Str) (s : Shf) : Sto := st.set (ix k (names S)) s
def isOth (k : Str) (key : Int) : PV → Bool
  | .tup [.str a, .int b, _] => !(a == k && b == key)
  | _ => true
def wrF (S : Sch) (st : Sto) : Wr → Nat ⊕ Sto
  | .new k key vs => if key = (shelfOf S st k).1 then (if leadsF S (setSh S st k ((shelfOf S st k).1 + 1, (shelfOf S st k).2 ++ [(key, 1, vs)])) (fieldsOf S k) vs = true then .inr (setSh S st k ((shelfOf S st k).1 + 1, (shelfOf S st k).2 ++ [(key, 1, vs)])) else .inl 4) else .inl 2
  | .chg k key ver vs => match (shelfOf S st k).2.find? (isKey key) with
    | none => .inl 1
    | some r => if r.2.1 = ver then (if leadsF S (setSh S st k ((shelfOf S st k).1, (shelfOf S st k).2.map fun r => if r.1 = key then (key, ver + 1, vs) else r)) (fieldsOf S k) vs = true then .inr (setSh S st k ((shelfOf S st k).1, (shelfOf S st k).2.map fun r => if r.1 = key then (key, ver + 1, vs) else r)) else .inl 4) else .inl 3
  | .drp k key ver => match (shelfOf S st k).2.find? (isKey key) with
    | none => .inl 1
    | some r => if r.2.1 = ver then (if ((linksV S st k key).mergeSort leD).any (isOth k key) = true then .inl 5 else .inr (setSh S st k ((shelfOf S st k).1, (shelfOf S st k).2.filter fun r => !decide (r.1 = key)))) else .inl 3
def wordOf : Nat → Str
  | 1 => "no row"
  | 2 => "not next"
  | 3 => "stale"
  | 4 => "bad link"
  | 5 => "linked"
  | _ => "wrong"
/-- the shape of a store -/
structure StoSh (S : Sch) (st : Sto) (N : Nat) : Prop where
  len : st.length = S.length
  val : ∀ k ∈ S, ∀ r ∈ (shelfOf S st k.1).2, r.2.2.length = k.2.length
  siz : ∀ k ∈ S, (shelfOf S st k.1).2.length ≤ N
theorem StoOk.sh {S : Sch} {st : Sto} {N : Nat} (h : StoOk S st) (m : StoSm st N) : StoSh S st N := ⟨h.len, fun k hk r hr => ((h.shf k hk).rows r hr).vals.len, fun k hk => m.rows _ (shelfOf_mem h.len (mem_names hk))⟩
theorem setSh_len {S : Sch} {st : Sto} {k : Str} {s : Shf} : (setSh S st k s).length = st.length := by unfold setSh; simp
theorem ix_inj {k q : Str} {l : List Str} (h : k ∈ l) (h2 : q ∈ l) (e : ix k l = ix q l) : k = q := by
  have h1 := ix_get h
  have h3 := ix_get h2
  rw [e, h3] at h1
  exact (Option.some.inj h1).symm
theorem shelf_set {S : Sch} {st : Sto} (hl : st.length = S.length) {k q : Str} {s : Shf} (h : k ∈ names S) (h2 : q ∈ names S) : shelfOf S (setSh S st k s) q = if q = k then s else shelfOf S st q := by
  unfold shelfOf setSh
  rw [List.getD_eq_getElem?_getD, List.getD_eq_getElem?_getD]
  by_cases e : q = k
  · subst e
    have hi := ix_lt h
    unfold names at hi
    rw [List.length_map, ← hl] at hi
    rw [if_pos rfl]
    unfold names
    rw [List.getElem?_set_self hi]
    rfl
  · rw [if_neg e, List.getElem?_set_ne fun z => e (ix_inj h2 h z.symm)]
structure WrOk (S : Sch) (w : Wr) : Prop where
  kd : w.kd ∈ names S
  len : (match w with | .drp _ _ _ => True | _ => w.vs.length = (fieldsOf S w.kd).length)
theorem StoSh.mono {S : Sch} {st : Sto} {N M : Nat} (h : StoSh S st N) (l : N ≤ M) : StoSh S st M := ⟨h.len, h.val, fun k hk => Nat.le_trans (h.siz k hk) l⟩
theorem sh_set {S : Sch} {st : Sto} {N : Nat} (nd : (names S).Nodup) (h : StoSh S st N) {k : Str} {s : Shf} (hk : k ∈ names S) (hv : ∀ r ∈ s.2, r.2.2.length = (fieldsOf S k).length) (hs : s.2.length ≤ N) : StoSh S (setSh S st k s) N := by
  refine ⟨setSh_len.trans h.len, fun q hq r hr => ?_, fun q hq => ?_⟩
  · rw [shelf_set h.len hk (mem_names hq)] at hr
    split at hr
    · rename_i e
      rw [hv r hr, ← e, fieldsOf_mem nd hq]
    · exact h.val q hq r hr
  · rw [shelf_set h.len hk (mem_names hq)]
    split
    · exact hs
    · exact h.siz q hq
theorem mem_of_names {S : Sch} {k : Str} (h : k ∈ names S) : (k, fieldsOf S k) ∈ S := List.mem_of_getElem? (sch_at h)
theorem wrF_sh {S : Sch} {st st' : Sto} {N : Nat} (nd : (names S).Nodup) (h : StoSh S st N) {w : Wr} (wo : WrOk S w) (e : wrF S st w = .inr st') : StoSh S st' (N + 1) := by
  have hk := mem_of_names wo.kd
  cases w with
  | new k key vs =>
    simp only [wrF] at e
    split at e
    · split at e
      · cases e
        refine sh_set nd (h.mono (Nat.le_succ _)) wo.kd (fun r hr => ?_) ?_
        · rcases List.mem_append.mp hr with hr | hr
          · exact h.val _ hk r hr
          · simp at hr
            rw [hr]
            exact wo.len
        · have := h.siz _ hk
          simp only [List.length_append, List.length_cons, List.length_nil]
          simp only [Wr.kd] at this
          omega
      · cases e
    · cases e
  | chg k key ver vs =>
    simp only [wrF] at e
    split at e
    · cases e
    · split at e
      · split at e
        · cases e
          refine sh_set nd (h.mono (Nat.le_succ _)) wo.kd (fun r hr => ?_) ?_
          · obtain ⟨q, hq, rfl⟩ := List.mem_map.mp hr
            split
            · exact wo.len
            · exact h.val _ hk q hq
          · have := h.siz _ hk
            simp only [List.length_map]
            simp only [Wr.kd] at this
            omega
        · cases e
      · cases e
  | drp k key ver =>
    simp only [wrF] at e
    split at e
    · cases e
    · split at e
      · split at e
        · cases e
        · cases e
          refine sh_set nd (h.mono (Nat.le_succ _)) wo.kd (fun r hr => h.val _ hk r (List.mem_filter.mp hr).1) ?_
          have := h.siz _ hk
          have h2 := List.length_filter_le (fun r : Row => !decide (r.1 = key)) (shelfOf S st k).2
          simp only [Wr.kd] at this
          show ((shelfOf S st k).2.filter fun r : Row => !decide (r.1 = key)).length ≤ N + 1
          omega
      · cases e
def runW (S : Sch) : Sto → List Wr → Option Sto
  | st, [] => some st
  | st, w :: ws => match wrF S st w with
    | .inl _ => none
    | .inr st' => runW S st' ws
theorem runW_snoc {S : Sch} {w : Wr} {st2 st3 : Sto} : ∀ {ws : List Wr} {st : Sto}, runW S st ws = some st2 → wrF S st2 w = .inr st3 → runW S st (ws ++ [w]) = some st3
  | [], st, h, e => by
    cases h
    simp [runW, e]
  | v :: ws, st, h, e => by
    simp only [runW, List.cons_append] at h ⊢
    split at h
    · cases h
    · exact runW_snoc h e
/-! slices at a place -/
theorem cut_hi {α : Type} (xs : List α) (n : Nat) : cutP xs none (some (n : Int)) = xs.take n := by
  unfold cutP
  rw [HT.sIx_none, HT.sIx_nat, Nat.sub_zero, List.drop_zero]
  by_cases h : n ≤ xs.length
  · rw [Nat.min_eq_left h]
  · rw [Nat.min_eq_right (by omega), List.take_of_length_le (Nat.le_refl _), List.take_of_length_le (by omega)]
theorem cut_lo {α : Type} (xs : List α) (n : Nat) : cutP xs (some (n : Int)) none = xs.drop n := by
  unfold cutP
  rw [HT.sIx_none, HT.sIx_nat]
  by_cases h : n ≤ xs.length
  · rw [Nat.min_eq_left h, List.take_of_length_le (by rw [List.length_drop]; exact Nat.le_refl _)]
  · rw [Nat.min_eq_right (by omega), List.drop_of_length_le (Nat.le_refl _), List.drop_of_length_le (by omega)]
    simp
theorem linksV_len' {S : Sch} {st : Sto} {m : Nat} (ok : SchOk S) (so : StoSh S st m) (kind : Str) (key : Int) : (linksV S st kind key).length ≤ 4 * (m * 5) := by
  have h := flatMap_len (l := S) (f := fun k => lkK S st kind key k) (b := m * 5) fun k hk => by
    have h2 := flatMap_len (l := (shelfOf S st k.1).2) (f := fun r => lkR kind key k.1 k.2 r) (b := 5) fun r hr => by
      have h3 := flatMap_len (l := k.2.zip r.2.2) (f := fun p => lk1 kind key k.1 r.1 p.1 p.2) (b := 1) fun p _ => lk1_len _ _ _ _ _ _
      have h4 := (ok.fl k hk).2
      have h5 : (k.2.zip r.2.2).length ≤ 5 := by rw [List.length_zip]; omega
      unfold lkR
      omega
    exact Nat.le_trans h2 (Nat.mul_le_mul_right 5 (so.siz k hk))
  exact Nat.le_trans h (Nat.mul_le_mul_right _ ok.l4)
theorem ix_sch {S : Sch} {k : Str} (h : k ∈ names S) : idxV (eSch S) (.int (ix k (names S) : Nat)) = some (eKnd (k, fieldsOf S k)) := atI_get eKnd (sch_at h)
theorem ix_sto {S : Sch} {st : Sto} {k : Str} (hl : st.length = S.length) (h : k ∈ names S) : idxV (eSto st) (.int (ix k (names S) : Nat)) = some (eShf (shelfOf S st k)) := atI_get eShf (sto_at hl h)
/-- a shelf put in another's place -/
theorem with_shelf {S : Sch} {st : Sto} {k : Str} (hl : st.length = S.length) (h : k ∈ names S) (s : Shf) : (st.take (ix k (names S))).map eShf ++ (eShf s :: (st.drop (ix k (names S) + 1)).map eShf) = (setSh S st k s).map eShf := by
  have hi := ix_lt h
  unfold names at hi
  rw [List.length_map, ← hl] at hi
  unfold setSh
  rw [List.set_eq_take_append_cons_drop]
  unfold names
  rw [if_pos hi]
  simp
theorem sl_sto_hi (st : Sto) (n : Nat) : sliceV (eSto st) none (some (n : Int)) = some (.val (.tup ((st.take n).map eShf))) := by
  show some (R.val (.tup (cutP (st.map eShf) none (some (n : Int))))) = _
  rw [cut_hi, List.map_take]
theorem sl_sto_lo (st : Sto) (n : Nat) : sliceV (eSto st) (some (n : Int)) none = some (.val (.tup ((st.drop n).map eShf))) := by
  show some (R.val (.tup (cutP (st.map eShf) (some (n : Int)) none))) = _
  rw [cut_lo, List.map_drop]
theorem sl_sto_lo1 (st : Sto) (n : Nat) : sliceV (eSto st) (some ((n : Int) + 1)) none = some (.val (.tup ((st.drop (n + 1)).map eShf))) := sl_sto_lo st (n + 1)
end D

/-! D24: what a store is, of any plain value. -/
namespace D
open PySem PySem.Spec PyProof.Rows L2
@[simp] theorem isi_str_non : isiV .str .non = some false := (rfl)
@[simp] theorem isi_str_bl (b : Bool) : isiV .str (.bl b) = some false := (rfl)
@[simp] theorem isi_str_int (i : Int) : isiV .str (.int i) = some false := (rfl)
@[simp] theorem isi_str_str (x : Str) : isiV .str (.str x) = some true := (rfl)
@[simp] theorem isi_str_tup (xs : List PV) : isiV .str (.tup xs) = some false := (rfl)
@[simp] theorem isi_str_lst (xs : List PV) : isiV .str (.lst xs) = some false := (rfl)
@[simp] theorem isi_int_non : isiV .int .non = some false := (rfl)
@[simp] theorem isi_int_bl (b : Bool) : isiV .int (.bl b) = some true := (rfl)
@[simp] theorem isi_int_int (i : Int) : isiV .int (.int i) = some true := (rfl)
@[simp] theorem isi_int_str (x : Str) : isiV .int (.str x) = some false := (rfl)
@[simp] theorem isi_int_tup (xs : List PV) : isiV .int (.tup xs) = some false := (rfl)
@[simp] theorem isi_int_lst (xs : List PV) : isiV .int (.lst xs) = some false := (rfl)
@[simp] theorem isi_bool_non : isiV .bool .non = some false := (rfl)
@[simp] theorem isi_bool_bl (b : Bool) : isiV .bool (.bl b) = some true := (rfl)
@[simp] theorem isi_bool_int (i : Int) : isiV .bool (.int i) = some false := (rfl)
@[simp] theorem isi_bool_str (x : Str) : isiV .bool (.str x) = some false := (rfl)
@[simp] theorem isi_bool_tup (xs : List PV) : isiV .bool (.tup xs) = some false := (rfl)
@[simp] theorem isi_bool_lst (xs : List PV) : isiV .bool (.lst xs) = some false := (rfl)
@[simp] theorem isi_tuple_non : isiV .tuple .non = some false := (rfl)
@[simp] theorem isi_tuple_bl (b : Bool) : isiV .tuple (.bl b) = some false := (rfl)
@[simp] theorem isi_tuple_int (i : Int) : isiV .tuple (.int i) = some false := (rfl)
@[simp] theorem isi_tuple_str (x : Str) : isiV .tuple (.str x) = some false := (rfl)
@[simp] theorem isi_tuple_tup (xs : List PV) : isiV .tuple (.tup xs) = some true := (rfl)
@[simp] theorem isi_tuple_lst (xs : List PV) : isiV .tuple (.lst xs) = some false := (rfl)
/-! each once, rising -/
theorem insU_mem {x y : Int} : ∀ {l : List Int}, y ∈ insU x l ↔ y = x ∨ y ∈ l
  | [] => by simp [insU]
  | z :: l => by
    simp only [insU]
    split
    · simp
    · split
      · rename_i h; subst h; simp
      · simp only [List.mem_cons, insU_mem (l := l)]
        constructor
        · rintro (h | h | h) <;> simp [h]
        · rintro (h | h | h) <;> simp [h]
theorem insU_asc {x : Int} : ∀ {l : List Int}, l.Pairwise (· < ·) → (insU x l).Pairwise (· < ·)
  | [], _ => by simp [insU]
  | z :: l, h => by
    obtain ⟨h1, h2⟩ := List.pairwise_cons.mp h
    simp only [insU]
    split
    · rename_i hx
      refine List.pairwise_cons.mpr ⟨fun y hy => ?_, h⟩
      rcases List.mem_cons.mp hy with rfl | hy
      · exact hx
      · exact Int.lt_trans hx (h1 y hy)
    · split
      · exact h
      · rename_i a b
        refine List.pairwise_cons.mpr ⟨fun y hy => ?_, insU_asc h2⟩
        rcases insU_mem.mp hy with rfl | hy
        · omega
        · exact h1 y hy
theorem srtU_asc : ∀ l : List Int, (srtU l).Pairwise (· < ·)
  | [] => .nil
  | x :: l => insU_asc (srtU_asc l)
theorem srtU_id : ∀ {l : List Int}, l.Pairwise (· < ·) → srtU l = l
  | [], _ => rfl
  | x :: l, h => by
    obtain ⟨h1, h2⟩ := List.pairwise_cons.mp h
    show insU x (srtU l) = x :: l
    rw [srtU_id h2]
    cases l with
    | nil => rfl
    | cons y l =>
      simp only [insU]
      rw [if_pos (h1 y (by simp))]
theorem srtU_iff {l : List Int} : srtU l = l ↔ l.Pairwise (· < ·) := ⟨fun h => by rw [← h]; exact srtU_asc l, srtU_id⟩
theorem blt_srtU {l : List Int} (h : l.length ≤ 60) : bltV .sortSet [.lst (l.map .int)] = some (.fre (.l ((srtU l).map .int))) := by
  show (match asInts (l.map PV.int) with | some l => if l.length ≤ 60 then some (R.fre (.l ((srtU l).map PV.int))) else none | none => none) = _
  rw [asInts_map]
  simp only
  rw [if_pos h]
theorem eqv_is (l m : List Int) : eqv (.lst (l.map .int)) (.lst (m.map .int)) = decide (l = m) := by
  simp only [eqv]
  exact eqvs_map (fun x y => by rw [Bool.eq_iff_iff]; simp [eqv]) l m
theorem dat_is (n : Nat) (l : List Int) : dat (n + 1) (.lst (l.map .int)) = true := by simp only [dat]; exact dats_map fun x _ => dat_int n x
theorem c_eq_is (l m : List Int) : cmpOp .eq (.lst (l.map .int)) (.lst (m.map .int)) = some (decide (l = m)) := by rw [c_eq (dat_is 59 l) (dat_is 59 m), eqv_is]
/-! a store, piece by piece -/
def wholeB : PV → Bool
  | .int _ => true
  | _ => false
def plainVB : Srt → PV → Bool
  | .num, .int i => decide (-9999 ≤ i) && decide (i ≤ 9999)
  | .text, .str x => txtOk x
  | .link _ _ _, .non => true
  | .link _ _ _, .int i => decide (1 ≤ i)
  | _, _ => false
def valsB (fs : List Fld) : PV → Bool
  | .tup vs => decide (vs.length = fs.length) && (fs.zip vs).all fun p => plainVB p.1.2 p.2
  | _ => false
def rowB (fs : List Fld) (n : Int) : PV → Bool
  | .tup [.int k, .int v, x] => decide (1 ≤ k) && (decide (k < n) && (decide (1 ≤ v) && valsB fs x))
  | _ => false
def keyI : PV → Int
  | .tup (.int k :: _) => k
  | _ => 0
def shfB (fs : List Fld) : PV → Bool
  | .tup [.int n, .tup rs] => decide (1 ≤ n) && (rs.all (rowB fs n) && decide (rs.map keyI = srtU (rs.map keyI)))
  | _ => false
def stoB (S : Sch) : PV → Bool
  | .tup shs => decide (shs.length = S.length) && (S.zip shs).all fun p => shfB p.1.2 p.2
  | _ => false
def VW : Srt → Vl → Prop
  | .num, .int i => -9999 ≤ i ∧ i ≤ 9999
  | .text, .str x => txtOk x = true
  | .link _ _ _, .non => True
  | .link _ _ _, .int i => 1 ≤ i
  | _, _ => False
structure RowW (fs : List Fld) (n : Int) (r : Row) : Prop where
  pos : 1 ≤ r.1
  nxt : r.1 < n
  ver : 1 ≤ r.2.1
  vals : F2 (fun f v => VW f.2 v) fs r.2.2
structure ShfW (fs : List Fld) (s : Shf) : Prop where
  one : 1 ≤ s.1
  rows : ∀ r ∈ s.2, RowW fs s.1 r
  asc : (keysOf s).Pairwise (· < ·)
theorem plainVB_iff (s : Srt) : ∀ p : PV, plainVB s p = true ↔ ∃ v, p = eVl v ∧ VW s v := fun p => by
  constructor
  · intro h
    cases s <;> cases p <;> simp only [plainVB, Bool.and_eq_true, decide_eq_true_eq] at h <;> first | (cases h; done) | skip
    · exact ⟨.int _, rfl, h⟩
    · exact ⟨.str _, rfl, h⟩
    · exact ⟨.non, rfl, trivial⟩
    · exact ⟨.int _, rfl, h⟩
  · rintro ⟨v, rfl, h⟩
    cases s <;> cases v <;> simp only [VW] at h <;> simp [plainVB, eVl, h]
theorem valsB_iff {fs : List Fld} : ∀ p : PV, valsB fs p = true ↔ ∃ vs, p = eVls vs ∧ F2 (fun f v => VW f.2 v) fs vs := fun p => by
  have key : ∀ (fs : List Fld) (xs : List PV), (xs.length = fs.length ∧ ((fs.zip xs).all fun p => plainVB p.1.2 p.2) = true) ↔ ∃ vs : List Vl, xs = vs.map eVl ∧ F2 (fun f v => VW f.2 v) fs vs := by
    intro fs
    induction fs with
    | nil =>
      intro xs
      constructor
      · rintro ⟨h, _⟩
        simp at h
        subst h
        exact ⟨[], rfl, .nil⟩
      · rintro ⟨vs, rfl, h⟩
        cases h
        simp
    | cons f fs ih =>
      intro xs
      constructor
      · rintro ⟨h1, h2⟩
        cases xs with
        | nil => simp at h1
        | cons x xs =>
          simp only [List.zip_cons_cons, List.all_cons, Bool.and_eq_true] at h2
          obtain ⟨v, rfl, hv⟩ := (plainVB_iff f.2 x).mp h2.1
          obtain ⟨vs, rfl, hvs⟩ := (ih xs).mp ⟨by simpa using h1, h2.2⟩
          exact ⟨v :: vs, rfl, .cons hv hvs⟩
      · rintro ⟨vs, rfl, h⟩
        cases h with
        | cons hv ht =>
          rename_i v vs
          obtain ⟨h1, h2⟩ := (ih _).mpr ⟨vs, rfl, ht⟩
          simp only [List.map_cons, List.length_cons, List.zip_cons_cons, List.all_cons, Bool.and_eq_true]
          exact ⟨by rw [h1], (plainVB_iff f.2 _).mpr ⟨v, rfl, hv⟩, h2⟩
  cases p with
  | tup xs => simp only [valsB, Bool.and_eq_true, decide_eq_true_eq, key fs xs, eVls, PV.tup.injEq]
  | _ => exact ⟨fun h => (by cases h), fun ⟨vs, h, _⟩ => by simp [eVls] at h⟩
theorem rowB_iff {fs : List Fld} {n : Int} (p : PV) : rowB fs n p = true ↔ ∃ r, p = eRow r ∧ RowW fs n r := by
  constructor
  · intro h
    unfold rowB at h
    split at h
    · simp only [Bool.and_eq_true, decide_eq_true_eq] at h
      obtain ⟨h1, h2, h3, h4⟩ := h
      obtain ⟨vs, rfl, hv⟩ := (valsB_iff _).mp h4
      exact ⟨(_, _, vs), rfl, h1, h2, h3, hv⟩
    · cases h
  · rintro ⟨⟨k, v, vs⟩, rfl, h⟩
    have := (valsB_iff (fs := fs) _).mpr ⟨vs, rfl, h.vals⟩
    have h1 := h.pos
    have h2 := h.nxt
    have h3 := h.ver
    simp only at h1 h2 h3
    simp [rowB, eRow, this, h1, h2, h3]
@[simp] theorem keyI_row (r : Row) : keyI (eRow r) = r.1 := rfl
theorem rowsB_iff {fs : List Fld} {n : Int} : ∀ xs : List PV, xs.all (rowB fs n) = true ↔ ∃ rs : List Row, xs = rs.map eRow ∧ ∀ r ∈ rs, RowW fs n r
  | [] => ⟨fun _ => ⟨[], rfl, by simp⟩, fun _ => rfl⟩
  | x :: xs => by
    rw [List.all_cons, Bool.and_eq_true, rowB_iff, rowsB_iff xs]
    constructor
    · rintro ⟨⟨r, rfl, h1⟩, rs, rfl, h2⟩
      refine ⟨r :: rs, rfl, fun q hq => ?_⟩
      rcases List.mem_cons.mp hq with rfl | hq
      · exact h1
      · exact h2 q hq
    · rintro ⟨rs, h, h2⟩
      cases rs with
      | nil => simp at h
      | cons r rs =>
        simp only [List.map_cons, List.cons.injEq] at h
        exact ⟨⟨r, h.1, h2 r (by simp)⟩, rs, h.2, fun q hq => h2 q (by simp [hq])⟩
theorem shfB_iff {fs : List Fld} (p : PV) : shfB fs p = true ↔ ∃ s, p = eShf s ∧ ShfW fs s := by
  constructor
  · intro h
    unfold shfB at h
    split at h
    · simp only [Bool.and_eq_true, decide_eq_true_eq] at h
      obtain ⟨h1, h2, h3⟩ := h
      obtain ⟨rs, rfl, hr⟩ := (rowsB_iff _).mp h2
      refine ⟨(_, rs), rfl, h1, hr, ?_⟩
      rw [List.map_map] at h3
      exact srtU_iff.mp h3.symm
    · cases h
  · rintro ⟨⟨n, rs⟩, rfl, h⟩
    have h1 := (rowsB_iff (fs := fs) (n := n) _).mpr ⟨rs, rfl, h.rows⟩
    have h2 := h.one
    have h3 := srtU_id h.asc
    unfold keysOf at h3
    simp only at h1 h2 h3
    have h4 : ((rs.map eRow).map keyI) = rs.map (·.1) := by rw [List.map_map]; rfl
    simp only [shfB, eShf, eRows, h1, h2, h4, h3, decide_true, Bool.and_true]
theorem stoB_iff {S : Sch} (p : PV) : stoB S p = true ↔ ∃ st, p = eSto st ∧ F2 (fun k s => ShfW k.2 s) S st := by
  have key : ∀ (fs : Sch) (xs : List PV), (xs.length = fs.length ∧ ((fs.zip xs).all fun p => shfB p.1.2 p.2) = true) ↔ ∃ vs : Sto, xs = vs.map eShf ∧ F2 (fun f v => ShfW f.2 v) fs vs := by
    intro fs
    induction fs with
    | nil =>
      intro xs
      constructor
      · rintro ⟨h, _⟩
        simp at h
        subst h
        exact ⟨[], rfl, .nil⟩
      · rintro ⟨vs, rfl, h⟩
        cases h
        simp
    | cons f fs ih =>
      intro xs
      constructor
      · rintro ⟨h1, h2⟩
        cases xs with
        | nil => simp at h1
        | cons x xs =>
          simp only [List.zip_cons_cons, List.all_cons, Bool.and_eq_true] at h2
          obtain ⟨v, rfl, hv⟩ := (shfB_iff x).mp h2.1
          obtain ⟨vs, rfl, hvs⟩ := (ih xs).mp ⟨by simpa using h1, h2.2⟩
          exact ⟨v :: vs, rfl, .cons hv hvs⟩
      · rintro ⟨vs, rfl, h⟩
        cases h with
        | cons hv ht =>
          rename_i v vs
          obtain ⟨h1, h2⟩ := (ih _).mpr ⟨vs, rfl, ht⟩
          simp only [List.map_cons, List.length_cons, List.zip_cons_cons, List.all_cons, Bool.and_eq_true]
          exact ⟨by rw [h1], (shfB_iff _).mpr ⟨v, rfl, hv⟩, h2⟩
  cases p with
  | tup xs => simp only [stoB, Bool.and_eq_true, decide_eq_true_eq, key S xs, eSto, PV.tup.injEq]
  | _ => exact ⟨fun h => (by cases h), fun ⟨vs, h, _⟩ => by simp [eSto] at h⟩
def stoLd (S : Sch) (st : Sto) : Bool := (S.zip st).all fun p => p.2.2.all fun r => leadsF S st p.1.2 r.2.2
theorem VOk.vw {kd : List (Str × List Int)} (hk : ∀ x ks, getA kd x = some ks → ∀ i ∈ ks, 1 ≤ i) : ∀ {s : Srt} {v : Vl}, VOk kd s v → VW s v
  | .num, .int _, q => q
  | .text, .str _, q => q
  | .link _ _ _, .non, _ => trivial
  | .link x _ _, .int i, ⟨ks, h1, h2⟩ => hk x ks h1 i h2
  | .num, .non, q => q.elim
  | .num, .str _, q => q.elim
  | .text, .non, q => q.elim
  | .text, .int _, q => q.elim
  | .link _ _ _, .str _, q => q.elim
theorem F2.of_shelf {P : Knd → Shf → Prop} {S : Sch} {st : Sto} (nd : (names S).Nodup) (hl : st.length = S.length) (h : ∀ k ∈ S, P k (shelfOf S st k.1)) : F2 P S st := by
  have hz := zip_eq nd hl
  have key : ∀ (T : Sch) (t : Sto), t.length = T.length → (∀ p ∈ T.zip t, P p.1 p.2) → F2 P T t := by
    intro T
    induction T with
    | nil =>
      intro t hl _
      simp at hl
      subst hl
      exact .nil
    | cons k T ih =>
      intro t hl hp
      cases t with
      | nil => simp at hl
      | cons s t => exact .cons (hp (k, s) (by simp)) (ih t (by simpa using hl) fun p hm => hp p (by simp [hm]))
  refine key S st hl fun p hp => ?_
  rw [hz] at hp
  obtain ⟨k, hk, rfl⟩ := List.mem_map.mp hp
  exact h k hk
theorem keysD_pos {S : Sch} {st : Sto} (nd : (names S).Nodup) (so : StoOk S st) : ∀ x ks, getA (keysD S st) x = some ks → ∀ i ∈ ks, 1 ≤ i := fun x ks h i hi => by
  have hm := getA_keys h
  unfold keysD at hm
  obtain ⟨k, hk, e⟩ := List.mem_map.mp hm
  cases e
  exact (so.shf k hk).pos i hi
theorem StoOk.w {S : Sch} {st : Sto} (nd : (names S).Nodup) (so : StoOk S st) : F2 (fun k s => ShfW k.2 s) S st := F2.of_shelf nd so.len fun k hk => by
  have h := so.shf k hk
  refine ⟨h.one, fun r hr => ⟨h.pos _ (List.mem_map.mpr ⟨r, hr, rfl⟩), h.nxt _ (List.mem_map.mpr ⟨r, hr, rfl⟩), (h.rows r hr).ver, (h.rows r hr).vals.imp fun f v _ q => q.vw (keysD_pos nd so)⟩, h.asc⟩
theorem StoOk.stoB {S : Sch} {st : Sto} (nd : (names S).Nodup) (so : StoOk S st) : stoB S (eSto st) = true := (stoB_iff _).mpr ⟨st, rfl, so.w nd⟩
theorem memV_iff {v : Vl} {ks : List Int} : memV v ks = true ↔ ∃ i ∈ ks, v = .int i := by
  cases v <;> simp [memV]
theorem F2.all_zip {α β : Type} {P : α → β → Prop} {p : α → β → Bool} : ∀ {l : List α} {m : List β}, F2 P l m → (∀ x y, P x y → p x y = true) → ((l.zip m).all fun q => p q.1 q.2) = true
  | _, _, .nil, _ => rfl
  | _, _, .cons h t, f => by simp [f _ _ h, t.all_zip f]
theorem StoOk.leads {S : Sch} {st : Sto} (ok : SchOk S) (so : StoOk S st) {k : Knd} (hk : k ∈ S) {vs : List Vl} (h : F2 (fun f v => VOk (keysD S st) f.2 v) k.2 vs) : leadsF S st k.2 vs = true := by
  have h2 : F2 (fun f v => VOk (keysD S st) f.2 v ∧ f ∈ k.2) k.2 vs := h.imp fun f v hf q => ⟨q, hf⟩
  unfold leadsF
  refine h2.all_zip (p := fun f v => leads1 S st f v) fun f v hq => ?_
  obtain ⟨q, hf⟩ := hq
  unfold leads1
  cases e : f.2 with
  | num => rfl
  | text => rfl
  | link x m r =>
    rw [e] at q
    cases v with
    | non =>
      have q2 : m = true := q
      simp [q2]
    | str y => exact q.elim
    | int i =>
      obtain ⟨ks, h1, h2⟩ := q
      have hx := ok.lk k hk f hf x m r e
      rw [keysD_get hx] at h1
      cases h1
      simp only [reduceCtorEq, if_false]
      exact memV_iff.mpr ⟨i, h2, rfl⟩
theorem StoOk.ld {S : Sch} {st : Sto} (ok : SchOk S) (so : StoOk S st) : stoLd S st = true := by
  unfold stoLd
  rw [zip_eq ok.nd so.len]
  refine List.all_eq_true.mpr fun p hp => ?_
  obtain ⟨k, hk, rfl⟩ := List.mem_map.mp hp
  refine List.all_eq_true.mpr fun r hr => ?_
  exact so.leads ok hk ((so.shf k hk).rows r hr).vals
theorem take_cons_drop {α : Type} {l : List α} {j : Nat} {x : α} (h : l[j]? = some x) : l.take j ++ x :: l.drop (j + 1) = l := by
  obtain ⟨h1, rfl⟩ := List.getElem?_eq_some_iff.mp h
  rw [← List.drop_eq_getElem_cons h1, List.take_append_drop]
end D

/-! D25: dicts by handles (a text and a number); lists of handles, sorted. -/
namespace D
open PySem PySem.Spec PyProof.Rows L2
abbrev Hd := Str × Int
def hk (h : Hd) : List Key := [.inr h.1, .inl h.2]
def eH (h : Hd) : PV := .tup [.str h.1, .int h.2]
theorem hk_inj {a b : Hd} (h : hk a = hk b) : a = b := by
  obtain ⟨a1, a2⟩ := a
  obtain ⟨b1, b2⟩ := b
  simp only [hk, List.cons.injEq, Sum.inr.injEq, Sum.inl.injEq, and_true] at h
  rw [h.1, h.2]
@[simp] theorem toKeys_hk (k : Str) (i : Int) : toKeys [.str k, .int i] = some [.inr k, .inl i] := (rfl)
@[simp] theorem eqv_h (a b : Hd) : eqv (eH a) (eH b) = decide (a = b) := by
  obtain ⟨a1, a2⟩ := a
  obtain ⟨b1, b2⟩ := b
  rw [Bool.eq_iff_iff]
  simp [eH, eqv, eqvs]
@[simp] theorem dat_h (a : Hd) (n : Nat) : dat (n + 1) (eH a) = true := by simp [eH, dat, dats]
section
variable {κ α : Type} [DecidableEq κ]
def putG (l : List (κ × α)) (k : κ) (v : α) : List (κ × α) := if (l.any fun p => decide (p.1 = k)) = true then l.map (fun p => if p.1 = k then (p.1, v) else p) else l ++ [(k, v)]
def getG : List (κ × α) → κ → Option α
  | [], _ => none
  | p :: l, k => if p.1 = k then some p.2 else getG l k
def dropG (l : List (κ × α)) (k : κ) : List (κ × α) := l.filter fun p => decide (p.1 ≠ k)
theorem getG_none {k : κ} : ∀ {l : List (κ × α)}, getG l k = none ↔ k ∉ l.map (·.1)
  | [] => by simp [getG]
  | p :: l => by
    simp only [getG, List.map_cons, List.mem_cons, not_or]
    by_cases e : p.1 = k
    · simp [e]
    · rw [if_neg e, getG_none (l := l)]
      exact ⟨fun h => ⟨fun z => e z.symm, h⟩, fun h => h.2⟩
theorem getG_mem {k : κ} {v : α} : ∀ {l : List (κ × α)}, getG l k = some v → (k, v) ∈ l
  | p :: l, h => by
    simp only [getG] at h
    split at h
    · rename_i e
      cases h
      simp [← e]
    · simp [getG_mem h]
theorem getG_of {k : κ} {v : α} : ∀ {l : List (κ × α)}, (l.map (·.1)).Nodup → (k, v) ∈ l → getG l k = some v
  | p :: l, nd, h => by
    simp only [List.map_cons, List.nodup_cons] at nd
    simp only [getG]
    rcases List.mem_cons.mp h with h | h
    · rw [← h, if_pos rfl]
    · have : p.1 ≠ k := fun z => nd.1 (List.mem_map.mpr ⟨_, h, z.symm⟩)
      rw [if_neg this, getG_of nd.2 h]
theorem getG_map {k q : κ} {v : α} : ∀ l : List (κ × α), getG (l.map fun p => if p.1 = k then (p.1, v) else p) q = if q = k ∧ k ∈ l.map (·.1) then some v else getG l q
  | [] => by simp [getG]
  | p :: l => by
    simp only [List.map_cons, getG, getG_map l]
    by_cases e : p.1 = k
    · subst e
      by_cases e2 : q = p.1
      · subst e2; simp
      · have : ¬ p.1 = q := fun z => e2 z.symm
        simp [e2, this]
    · simp only [if_neg e]
      by_cases e2 : p.1 = q
      · have : ¬ q = k := fun z => e (e2.trans z)
        simp [e2, this]
      · by_cases e3 : q = k
        · subst e3
          have : ¬ q = p.1 := fun z => e2 z.symm
          simp only [if_neg e2, List.mem_cons, this, false_or]
        · simp [e2, e3]
theorem getG_app {k q : κ} {v : α} : ∀ {l : List (κ × α)}, k ∉ l.map (·.1) → getG (l ++ [(k, v)]) q = if q = k then some v else getG l q
  | [], _ => by
    simp only [List.nil_append, getG]
    by_cases e : k = q
    · simp [e]
    · have : ¬ q = k := fun z => e z.symm
      simp [e, this]
  | p :: l, h => by
    simp only [List.map_cons, List.mem_cons, not_or] at h
    simp only [List.cons_append, getG, getG_app h.2]
    by_cases e : p.1 = q
    · have : ¬ q = k := fun z => h.1 (z.symm.trans e.symm)
      simp [e, this]
    · simp [e]
theorem any_mem {l : List (κ × α)} {k : κ} : (l.any fun p => decide (p.1 = k)) = true ↔ k ∈ l.map (·.1) := by
  rw [List.any_eq_true]
  constructor
  · rintro ⟨p, hp, e⟩; exact List.mem_map.mpr ⟨p, hp, of_decide_eq_true e⟩
  · intro h
    obtain ⟨p, hp, e⟩ := List.mem_map.mp h
    exact ⟨p, hp, decide_eq_true e⟩
theorem getG_put {l : List (κ × α)} {k q : κ} {v : α} : getG (putG l k v) q = if q = k then some v else getG l q := by
  unfold putG
  by_cases h : k ∈ l.map (·.1)
  · rw [if_pos (any_mem.mpr h), getG_map]
    by_cases e : q = k
    · rw [if_pos ⟨e, h⟩, if_pos e]
    · rw [if_neg fun z => e z.1, if_neg e]
  · rw [if_neg fun z => h (any_mem.mp z), getG_app h]
theorem keys_put {l : List (κ × α)} {k : κ} {v : α} : (putG l k v).map (·.1) = if k ∈ l.map (·.1) then l.map (·.1) else l.map (·.1) ++ [k] := by
  unfold putG
  by_cases h : k ∈ l.map (·.1)
  · rw [if_pos (any_mem.mpr h), if_pos h, List.map_map]
    refine List.map_congr_left fun p _ => ?_
    by_cases e : p.1 = k <;> simp [e]
  · rw [if_neg fun z => h (any_mem.mp z), if_neg h, List.map_append]
    rfl
theorem nodup_put {l : List (κ × α)} {k : κ} {v : α} (nd : (l.map (·.1)).Nodup) : ((putG l k v).map (·.1)).Nodup := by
  rw [keys_put]
  split
  · exact nd
  · rename_i h
    rw [List.nodup_append]
    exact ⟨nd, by simp, fun a ha b hb => by simp at hb; rintro rfl; exact h (hb ▸ ha)⟩
theorem getG_drop {l : List (κ × α)} {k q : κ} : getG (dropG l k) q = if q = k then none else getG l q := by
  unfold dropG
  induction l with
  | nil => simp [getG]
  | cons p l ih =>
    rw [List.filter_cons]
    by_cases e : p.1 = k
    · have : decide (p.1 ≠ k) = false := by simp [e]
      rw [this]
      simp only [Bool.false_eq_true, if_false, ih, getG]
      by_cases e2 : q = k
      · simp [e2]
      · have : ¬ p.1 = q := fun z => e2 (z.symm.trans e)
        simp [e2, this]
    · have : decide (p.1 ≠ k) = true := by simp [e]
      rw [this]
      simp only [if_true, getG, ih]
      by_cases e2 : p.1 = q
      · have : ¬ q = k := fun z => e (e2.trans z)
        simp [e2, this]
      · simp [e2]
theorem nodup_drop {l : List (κ × α)} {k : κ} (nd : (l.map (·.1)).Nodup) : ((dropG l k).map (·.1)).Nodup := by
  unfold dropG
  exact nd.sublist (List.Sublist.map _ List.filter_sublist)
theorem put_len (l : List (κ × α)) (k : κ) (v : α) : (putG l k v).length ≤ l.length + 1 := by
  unfold putG
  split <;> simp
theorem drop_len (l : List (κ × α)) (k : κ) : (dropG l k).length ≤ l.length := List.length_filter_le _ _
end
/-! as a dict -/
section
variable {α : Type} (f : α → PV)
def ksR (l : List (Hd × α)) : List (List Key) := l.map fun p => hk p.1
def cR (l : List (Hd × α)) : Ct := .t (ksR l) (l.map fun p => f p.2)
def eR (l : List (Hd × α)) : PV := .dt (ksR l) (l.map fun p => f p.2)
@[simp] theorem cR_pv (l : List (Hd × α)) : (cR f l).pv = eR f l := (rfl)
theorem cR_nil : cR f [] = .t [] [] := rfl
@[simp] theorem isDc_R (n : Nat) (o : Ob) (l : List (Hd × α)) : isDc (some (n, o, cR f l)) = true := (rfl)
theorem look_R (h : Hd) : ∀ l : List (Hd × α), look? (ksR l) (l.map fun p => f p.2) (hk h) = (getG l h).map f
  | [] => rfl
  | p :: l => by
    simp only [ksR, List.map_cons, look?, getG]
    by_cases e : p.1 = h
    · simp [e]
    · have : ¬ hk p.1 = hk h := fun z => e (hk_inj z)
      rw [if_neg this, if_neg e]
      exact look_R h l
theorem dget_R (l : List (Hd × α)) (h : Hd) : dget (eR f l) (eH h) = some ((getG l h).map f) := by
  show some (look? (ksR l) (l.map fun p => f p.2) (hk h)) = _
  rw [look_R]
theorem idx_R {l : List (Hd × α)} {h : Hd} {v : α} (e : getG l h = some v) : idxV (eR f l) (eH h) = some (f v) := by
  show (match dget (eR f l) (eH h) with | some o => o | none => none) = _
  rw [dget_R, e]
  rfl
theorem in_R (l : List (Hd × α)) (h : Hd) : inV (eH h) (eR f l) = some (getG l h).isSome := by
  show (match dget (eR f l) (eH h) with | some o => some o.isSome | none => none) = _
  rw [dget_R]
  cases getG l h <;> rfl
theorem hasK_R (h : Hd) : ∀ l : List (Hd × α), hasK (ksR l) (hk h) = l.any fun p => decide (p.1 = h)
  | [] => rfl
  | p :: l => by
    have := hasK_R h l
    unfold hasK at this ⊢
    simp only [ksR, List.map_cons, List.any_cons] at this ⊢
    rw [this]
    congr 1
    rw [Bool.eq_iff_iff]
    simp only [decide_eq_true_eq]
    exact ⟨hk_inj, fun z => by rw [z]⟩
theorem rep_R (h : Hd) (v : α) : ∀ l : List (Hd × α), repVs (ksR l) (l.map fun p => f p.2) (hk h) (f v) = (l.map fun p => if p.1 = h then (p.1, v) else p).map fun p => f p.2
  | [] => rfl
  | p :: l => by
    have := rep_R h v l
    simp only [ksR, List.map_cons, repVs] at this ⊢
    rw [this]
    by_cases e : p.1 = h
    · simp [e]
    · have : ¬ hk p.1 = hk h := fun z => e (hk_inj z)
      simp [e, this]
theorem put_R {l : List (Hd × α)} (h : Hd) (v : α) (hl : l.length < sz) : putC (cR f l) (eH h) (f v) = some (cR f (putG l h v)) := by
  show (if (ksR l).length < sz then some (Ct.t (putKs (ksR l) (hk h)) (putVs (ksR l) (l.map fun p => f p.2) (hk h) (f v))) else none) = _
  rw [if_pos (by simpa [ksR] using hl)]
  unfold putKs putVs putG
  rw [hasK_R]
  by_cases e : (l.any fun p => decide (p.1 = h)) = true
  · simp only [if_pos e, rep_R]
    unfold cR ksR
    congr 2
    rw [List.map_map]
    refine List.map_congr_left fun p _ => ?_
    by_cases e : p.1 = h <;> simp [e]
  · simp only [if_neg e]
    unfold cR ksR
    simp
theorem dropVs_R (h : Hd) : ∀ l : List (Hd × α), dropVs (ksR l) (l.map fun p => f p.2) (hk h) = (dropG l h).map fun p => f p.2
  | [] => rfl
  | p :: l => by
    have := dropVs_R h l
    unfold dropG at this ⊢
    simp only [ksR, List.map_cons, dropVs] at this ⊢
    rw [this, List.filter_cons]
    by_cases e : p.1 = h
    · simp [e]
    · have : ¬ hk p.1 = hk h := fun z => e (hk_inj z)
      simp [e, this]
theorem drop_R {l : List (Hd × α)} {h : Hd} (e : (getG l h).isSome = true) : dropC (cR f l) (eH h) = some (cR f (dropG l h)) := by
  show (if (look? (ksR l) (l.map fun p => f p.2) (hk h)).isSome then some (Ct.t (dropKs (ksR l) (hk h)) (dropVs (ksR l) (l.map fun p => f p.2) (hk h))) else none) = _
  rw [look_R, if_pos (by simpa using e), dropVs_R]
  unfold cR
  congr 2
  unfold dropKs ksR dropG
  rw [List.filter_map]
  congr 1
  refine List.filter_congr fun p _ => ?_
  simp only [Function.comp_apply, decide_not]
  congr 1
  rw [Bool.eq_iff_iff]
  simp only [decide_eq_true_eq]
  exact ⟨hk_inj, fun z => by rw [z]⟩
theorem list_R {l : List (Hd × α)} (ok : ∀ p ∈ l, okS p.1.1 = true) : bltV .list [eR f l] = some (.fre (.l (l.map fun p => eH p.1))) := by
  show (if ((ksR l).all fun k => k.all okK) then some (R.fre (.l ((ksR l).map fun k => .tup (k.map keyPV)))) else none) = _
  rw [if_pos]
  · unfold ksR
    rw [List.map_map]
    rfl
  · refine List.all_eq_true.mpr fun k hk' => ?_
    obtain ⟨p, hp, rfl⟩ := List.mem_map.mp hk'
    simp [hk, okK, ok p hp]
end
/-! ### the order of handles -/
def ltH (a b : Hd) : Bool := if a.1 = b.1 then decide (a.2 < b.2) else ltS a.1 b.1
def leH (a b : Hd) : Bool := !ltH b a
theorem ltD_h (a b : Hd) : ltD (eH a) (eH b) = ltH a b := by
  obtain ⟨a1, a2⟩ := a
  obtain ⟨b1, b2⟩ := b
  unfold ltH
  by_cases e : a1 = b1
  · subst e
    simp only [eH, ltD, ltDs, eqv, beq_self_eq_true, if_true]
    by_cases e2 : a2 = b2
    · subst e2; simp
    · have : (a2 == b2) = false := by simpa using e2
      simp [this]
  · have : (a1 == b1) = false := by simpa using e
    simp [eH, ltD, ltDs, eqv, this, e]
theorem ltS_iff {x y : Str} : ltS x y = true ↔ x.cps.toList < y.cps.toList := decide_eq_true_iff
theorem str_ext {x y : Str} (h : x.cps.toList = y.cps.toList) : x = y := by
  cases x with
  | mk a =>
    cases y with
    | mk b => exact congrArg Str.mk (Array.toList_inj.mp h)
theorem ltS_irrefl (x : Str) : ltS x x = false := by
  refine Bool.eq_false_iff.mpr fun h => ?_
  exact List.lt_irrefl _ (ltS_iff.mp h)
theorem ltS_trans {x y z : Str} (h : ltS x y = true) (h' : ltS y z = true) : ltS x z = true := ltS_iff.mpr (List.lt_trans (ltS_iff.mp h) (ltS_iff.mp h'))
theorem ltS_tri (x y : Str) : ltS x y = true ∨ x = y ∨ ltS y x = true := by
  by_cases h : x.cps.toList < y.cps.toList
  · exact .inl (ltS_iff.mpr h)
  · by_cases h2 : y.cps.toList < x.cps.toList
    · exact .inr (.inr (ltS_iff.mpr h2))
    · exact .inr (.inl (str_ext (List.le_antisymm (List.not_lt.mp h2) (List.not_lt.mp h))))
theorem leH_iff {a b : Hd} : leH a b = true ↔ ltS a.1 b.1 = true ∨ (a.1 = b.1 ∧ a.2 ≤ b.2) := by
  unfold leH ltH
  by_cases e : b.1 = a.1
  · rw [if_pos e]
    have : ltS a.1 b.1 = false := by rw [e]; exact ltS_irrefl _
    rw [this]
    simp only [Bool.not_eq_true', decide_eq_false_iff_not, Int.not_lt, Bool.false_eq_true, false_or]
    exact ⟨fun h => ⟨e.symm, h⟩, fun h => h.2⟩
  · rw [if_neg e]
    have ne : ¬ a.1 = b.1 := fun z => e z.symm
    simp only [Bool.not_eq_true', ne, false_and, or_false]
    constructor
    · intro h
      rcases ltS_tri a.1 b.1 with q | q | q
      · exact q
      · exact absurd q ne
      · rw [h] at q; cases q
    · intro h
      refine Bool.eq_false_iff.mpr fun q => ?_
      have := ltS_trans h q
      rw [ltS_irrefl] at this
      cases this
theorem leH_trans (a b c : Hd) (h : leH a b = true) (h' : leH b c = true) : leH a c = true := by
  rw [leH_iff] at *
  rcases h with h | ⟨h, i⟩
  · rcases h' with h' | ⟨h', i'⟩
    · exact .inl (ltS_trans h h')
    · exact .inl (h' ▸ h)
  · rcases h' with h' | ⟨h', i'⟩
    · exact .inl (h ▸ h')
    · exact .inr ⟨h.trans h', Int.le_trans i i'⟩
theorem leH_total (a b : Hd) : (leH a b || leH b a) = true := by
  rw [Bool.or_eq_true, leH_iff, leH_iff]
  rcases ltS_tri a.1 b.1 with q | q | q
  · exact .inl (.inl q)
  · rcases Int.le_total a.2 b.2 with i | i
    · exact .inl (.inr ⟨q, i⟩)
    · exact .inr (.inr ⟨q.symm, i⟩)
  · exact .inr (.inl q)
theorem sort_H (l : List Hd) : (l.map eH).mergeSort leD = (l.mergeSort leH).map eH := by
  refine (List.map_mergeSort fun a _ b _ => ?_).symm
  unfold leH leD
  rw [ltD_h]
theorem sort_hd {l : List Hd} (hl : l.length ≤ sz) : bltV .sortedD [.lst (l.map eH)] = some (.fre (.l ((l.mergeSort leH).map eH))) := by
  have h1 : dats 20 (l.map eH) = true := dats_map fun x _ => dat_h x 19
  have h2 : allAlk (l.map eH) = true := by
    unfold allAlk
    refine List.all_eq_true.mpr fun x hx => List.all_eq_true.mpr fun y hy => ?_
    obtain ⟨a, _, rfl⟩ := List.mem_map.mp hx
    obtain ⟨b, _, rfl⟩ := List.mem_map.mp hy
    simp [eH, alk, alks]
  have h3 : srtb (l.map eH) = true := by
    unfold srtb
    refine Bool.or_eq_true .. |>.mpr (.inl (List.all_eq_true.mpr fun x hx => ?_))
    obtain ⟨a, _, rfl⟩ := List.mem_map.mp hx
    rfl
  show (if dats 20 (l.map eH) && allAlk (l.map eH) && srtb (l.map eH) && decide ((l.map eH).length ≤ sz) then some (R.fre (.l ((l.map eH).mergeSort leD))) else none) = _
  rw [h1, h2, h3, if_pos (by simpa using hl), sort_H]
theorem sortH_perm (l : List Hd) : (l.mergeSort leH).Perm l := List.mergeSort_perm l leH
theorem sortH_asc (l : List Hd) : (l.mergeSort leH).Pairwise (fun a b => leH a b = true) := List.pairwise_mergeSort leH_trans leH_total l
/-- the numbers of one text's, rising -/
theorem sortH_nums (l : List Hd) (k : Str) : (((l.mergeSort leH).filter fun h => decide (h.1 = k)).map (·.2)).Pairwise (· ≤ ·) ∧ (((l.mergeSort leH).filter fun h => decide (h.1 = k)).map (·.2)).Perm ((l.filter fun h => decide (h.1 = k)).map (·.2)) := by
  refine ⟨?_, ((sortH_perm l).filter _).map _⟩
  have h1 := (sortH_asc l).filter (fun h => decide (h.1 = k))
  rw [List.pairwise_map]
  refine List.Pairwise.imp_of_mem (fun {a b} ha hb hab => ?_) h1
  have e1 := of_decide_eq_true (List.mem_filter.mp ha).2
  have e2 := of_decide_eq_true (List.mem_filter.mp hb).2
  rcases leH_iff.mp hab with h | h
  · rw [e1, e2, ltS_irrefl] at h; cases h
  · exact h.2
end D

set_option maxHeartbeats 0
namespace K73
open PySem PySem.Spec PyProof.Rows L2 D
/-! ### the defs, read plainly -/
def top (i : Nat) : Stmt := PySem.Challenge.pw_heldrows_k73_whole_moves_apart.main.body.getD i (.Pass ⟨0, 0, 0, 0⟩)
def i_is_whole : Nat := 0
def i_is_name : Nat := 1
def i_is_sort : Nat := 2
def i_is_field : Nat := 3
def i_is_kind : Nat := 4
def i_leads_to_some : Nat := 5
def i_is_schema : Nat := 6
def i_is_plain : Nat := 7
def i_kind_names : Nat := 8
def i_fields_of : Nat := 9
def i_place_of : Nat := 10
def i_is_text : Nat := 11
def i_is_plain_value : Nat := 12
def i_looked : Nat := 13
def i_look_kind : Nat := 14
def i_look_field : Nat := 15
def i_with_fields : Nat := 16
def i_is_first_value : Nat := 17
def i_schema_added : Nat := 18
def i_schema_left : Nat := 19
def i_schema_called : Nat := 20
def i_sort_named : Nat := 21
def i_schema_named : Nat := 22
def i_schema_less : Nat := 23
def i_moved_schema : Nat := 24
def i_moved_values : Nat := 25
def i_moved_shelf : Nat := 26
def i_moved_store : Nat := 27
def i_all_moved : Nat := 28
def i__law_cell : Nat := 29
def i__law_pick : Nat := 30
def i__law_sort : Nat := 31
def i__law_schema : Nat := 32
def i__law_counts : Nat := 33
def i__law_plain : Nat := 34
def i__law_value : Nat := 35
def i__law_store : Nat := 36
def i__law_new_name : Nat := 37
def i__law_move : Nat := 38
def i__law_can_be : Nat := 39
def i_law : Nat := 40
def d_is_whole : Df := ⟨1, 1, [(.ret (.and [(.isi (.var 0) .int), (.not (.isi (.var 0) .bool))]))]⟩
def t_is_whole : Tx := ⟨"is_whole", ["thing"], defArgs (top 11), defBody (top 11), defScope (top 11), d_is_whole, none, ""⟩
def d_is_name : Df := ⟨1, 2, [(.ife (.or [(.not (.isi (.var 0) .str)), (.not (.cmp2 .le .le (.int 1) (.blt .len [(.var 0)]) (.glb "LONGEST_NAME" (.int 6))))]) [(.ret (.bl false))] []), (.ret (.blt .all [(.comp (.cmp .isin (.var 1) (.glb "LETTERS" (.str "abcdefghijklmnopqrstuvwxyz"))) (.nm 1) .one [(.var 0)] [] [("sign", 1)])]))]⟩
def t_is_name : Tx := ⟨"is_name", ["thing", "sign"], defArgs (top 12), defBody (top 12), defScope (top 12), d_is_name, none, ""⟩
def d_is_sort : Df := ⟨1, 1, [(.ife (.isi (.var 0) .str) [(.ret (.or [(.cmp .eq (.var 0) (.str "number")), (.cmp .eq (.var 0) (.str "text"))]))] []), (.ife (.or [(.not (.isi (.var 0) .tuple)), (.cmp .ne (.blt .len [(.var 0)]) (.int 4)), (.cmp .ne (.idx (.var 0) (.int 0)) (.str "link")), (.not (.call i_is_name [(.idx (.var 0) (.int 1))]))]) [(.ret (.bl false))] []), (.ife (.or [(.not (.isi (.idx (.var 0) (.int 2)) .bool)), (.inT true (.idx (.var 0) (.int 3)) "RULES" [.str "bar", .str "none", .str "along"])]) [(.ret (.bl false))] []), (.ret (.or [(.idx (.var 0) (.int 2)), (.cmp .ne (.idx (.var 0) (.int 3)) (.str "none"))]))]⟩
def t_is_sort : Tx := ⟨"is_sort", ["thing"], defArgs (top 13), defBody (top 13), defScope (top 13), d_is_sort, none, ""⟩
def d_is_field : Df := ⟨1, 1, [(.ret (.and [(.isi (.var 0) .tuple), (.cmp .eq (.blt .len [(.var 0)]) (.int 2)), (.call i_is_name [(.idx (.var 0) (.int 0))]), (.call i_is_sort [(.idx (.var 0) (.int 1))])]))]⟩
def t_is_field : Tx := ⟨"is_field", ["thing"], defArgs (top 14), defBody (top 14), defScope (top 14), d_is_field, none, ""⟩
def d_is_kind : Df := ⟨1, 2, [(.ife (.or [(.not (.isi (.var 0) .tuple)), (.cmp .ne (.blt .len [(.var 0)]) (.int 2)), (.not (.call i_is_name [(.idx (.var 0) (.int 0))])), (.not (.isi (.idx (.var 0) (.int 1)) .tuple))]) [(.ret (.bl false))] []), (.ife (.or [(.not (.cmp2 .le .le (.int 1) (.blt .len [(.idx (.var 0) (.int 1))]) (.glb "MOST_FIELDS" (.int 5)))), (.not (.blt .all [(.comp (.call i_is_field [(.var 1)]) (.nm 1) .one [(.idx (.var 0) (.int 1))] [] [("field", 1)])]))]) [(.ret (.bl false))] []), (.ret (.cmp .eq (.blt .lenset [(.comp (.idx (.var 1) (.int 0)) (.nm 1) .one [(.idx (.var 0) (.int 1))] [] [("field", 1)])]) (.blt .len [(.idx (.var 0) (.int 1))])))]⟩
def t_is_kind : Tx := ⟨"is_kind", ["thing", "field"], defArgs (top 15), defBody (top 15), defScope (top 15), d_is_kind, none, ""⟩
def d_leads_to_some : Df := ⟨2, 3, [(.ret (.blt .all [(.comp (.or [(.call i_is_plain [(.idx (.var 2) (.int 1))]), (.cmp .isin (.idx (.idx (.var 2) (.int 1)) (.int 1)) (.var 1))]) (.nm 2) .one [(.idx (.var 0) (.int 1))] [] [("field", 2)])]))]⟩
def t_leads_to_some : Tx := ⟨"leads_to_some", ["kind", "names", "field"], defArgs (top 16), defBody (top 16), defScope (top 16), d_leads_to_some, none, ""⟩
def d_is_schema : Df := ⟨1, 3, [(.ife (.or [(.not (.isi (.var 0) .tuple)), (.not (.cmp2 .le .le (.int 1) (.blt .len [(.var 0)]) (.glb "MOST_KINDS" (.int 4)))), (.not (.blt .all [(.comp (.call i_is_kind [(.var 2)]) (.nm 2) .one [(.var 0)] [] [("kind", 2)])]))]) [(.ret (.bl false))] []), (.asg (.nm 1) (.comp (.idx (.var 2) (.int 0)) (.nm 2) .one [(.var 0)] [] [("kind", 2)])), (.ret (.and [(.cmp .eq (.blt .lenset [(.var 1)]) (.blt .len [(.var 1)])), (.blt .all [(.comp (.call i_leads_to_some [(.var 2), (.var 1)]) (.nm 2) .one [(.var 0)] [] [("kind", 2)])])]))]⟩
def t_is_schema : Tx := ⟨"is_schema", ["thing", "names", "kind"], defArgs (top 17), defBody (top 17), defScope (top 17), d_is_schema, none, ""⟩
def d_is_plain : Df := ⟨1, 1, [(.ret (.isi (.var 0) .str))]⟩
def t_is_plain : Tx := ⟨"is_plain", ["sort"], defArgs (top 18), defBody (top 18), defScope (top 18), d_is_plain, none, ""⟩
def d_kind_names : Df := ⟨1, 2, [(.ret (.comp (.idx (.var 1) (.int 0)) (.nm 1) .one [(.var 0)] [] [("kind", 1)]))]⟩
def t_kind_names : Tx := ⟨"kind_names", ["schema", "kind"], defArgs (top 19), defBody (top 19), defScope (top 19), d_kind_names, none, ""⟩
def d_fields_of : Df := ⟨2, 2, [(.ret (.idx (.idx (.var 0) (.meth .index (.call i_kind_names [(.var 0)]) [(.var 1)])) (.int 1)))]⟩
def t_fields_of : Tx := ⟨"fields_of", ["schema", "kind"], defArgs (top 20), defBody (top 20), defScope (top 20), d_fields_of, none, ""⟩
def d_place_of : Df := ⟨3, 4, [(.ret (.meth .index (.comp (.idx (.var 3) (.int 0)) (.nm 3) .one [(.call i_fields_of [(.var 0), (.var 1)])] [] [("one", 3)]) [(.var 2)]))]⟩
def t_place_of : Tx := ⟨"place_of", ["schema", "kind", "field", "one"], defArgs (top 21), defBody (top 21), defScope (top 21), d_place_of, none, ""⟩
def d_is_text : Df := ⟨1, 2, [(.ret (.and [(.isi (.var 0) .str), (.cmp .le (.blt .len [(.var 0)]) (.glb "LONGEST_TEXT" (.int 8))), (.blt .all [(.comp (.cmp2 .le .le (.str " ") (.var 1) (.str "~")) (.nm 1) .one [(.var 0)] [] [("sign", 1)])])]))]⟩
def t_is_text : Tx := ⟨"is_text", ["thing", "sign"], defArgs (top 22), defBody (top 22), defScope (top 22), d_is_text, none, ""⟩
def d_is_plain_value : Df := ⟨2, 2, [(.ife (.cmp .eq (.var 0) (.str "number")) [(.ret (.and [(.call i_is_whole [(.var 1)]), (.cmp2 .le .le (.op .sub (.int 0) (.glb "TOP" (.int 9999))) (.var 1) (.glb "TOP" (.int 9999)))]))] []), (.ret (.call i_is_text [(.var 1)]))]⟩
def t_is_plain_value : Tx := ⟨"is_plain_value", ["sort", "thing"], defArgs (top 23), defBody (top 23), defScope (top 23), d_is_plain_value, none, ""⟩
def d_looked : Df := ⟨1, 1, [(.ife (.not (.call i_is_schema [(.var 0)])) [(.rais "BadMove" 1)] []), (.ret (.var 0))]⟩
def t_looked : Tx := ⟨"looked", ["schema"], defArgs (top 25), defBody (top 25), defScope (top 25), d_looked, none, ""⟩
def d_look_kind : Df := ⟨2, 2, [(.ife (.cmp .notin (.var 1) (.call i_kind_names [(.var 0)])) [(.rais "BadMove" 1)] [])]⟩
def t_look_kind : Tx := ⟨"look_kind", ["schema", "kind"], defArgs (top 26), defBody (top 26), defScope (top 26), d_look_kind, none, ""⟩
def d_look_field : Df := ⟨3, 4, [(.exp (.call i_look_kind [(.var 0), (.var 1)])), (.ife (.cmp .notin (.var 2) (.comp (.idx (.var 3) (.int 0)) (.nm 3) .one [(.call i_fields_of [(.var 0), (.var 1)])] [] [("field", 3)])) [(.rais "BadMove" 1)] [])]⟩
def t_look_field : Tx := ⟨"look_field", ["schema", "kind", "name", "field"], defArgs (top 27), defBody (top 27), defScope (top 27), d_look_field, none, ""⟩
def d_with_fields : Df := ⟨3, 4, [(.ret (.blt .tuple [(.comp (.tup [(.idx (.var 3) (.int 0)), (.ite (.cmp .eq (.idx (.var 3) (.int 0)) (.var 1)) (.var 2) (.idx (.var 3) (.int 1)))]) (.nm 3) .one [(.var 0)] [] [("one", 3)])]))]⟩
def t_with_fields : Tx := ⟨"with_fields", ["schema", "kind", "fields", "one"], defArgs (top 28), defBody (top 28), defScope (top 28), d_with_fields, none, ""⟩
def d_is_first_value : Df := ⟨2, 2, [(.ife (.not (.call i_is_plain [(.var 0)])) [(.ret (.and [(.isN (.var 1)), (.idx (.var 0) (.int 2))]))] []), (.ret (.call i_is_plain_value [(.var 0), (.var 1)]))]⟩
def t_is_first_value : Tx := ⟨"is_first_value", ["sort", "value"], defArgs (top 29), defBody (top 29), defScope (top 29), d_is_first_value, none, ""⟩
def d_schema_added : Df := ⟨5, 6, [(.exp (.call i_look_kind [(.var 0), (.var 1)])), (.asg (.nm 5) (.call i_looked [(.call i_with_fields [(.var 0), (.var 1), (.op .add (.call i_fields_of [(.var 0), (.var 1)]) (.tup [(.tup [(.var 2), (.var 3)])]))])])), (.ife (.not (.call i_is_first_value [(.var 3), (.var 4)])) [(.rais "BadMove" 1)] []), (.ret (.var 5))]⟩
def t_schema_added : Tx := ⟨"schema_added", ["schema", "kind", "name", "sort", "value", "made"], defArgs (top 30), defBody (top 30), defScope (top 30), d_schema_added, none, ""⟩
def d_schema_left : Df := ⟨3, 4, [(.exp (.call i_look_field [(.var 0), (.var 1), (.var 2)])), (.ret (.call i_looked [(.call i_with_fields [(.var 0), (.var 1), (.blt .tuple [(.comp (.var 3) (.nm 3) .one [(.call i_fields_of [(.var 0), (.var 1)])] [(.cmp .ne (.idx (.var 3) (.int 0)) (.var 2))] [("field", 3)])])])]))]⟩
def t_schema_left : Tx := ⟨"schema_left", ["schema", "kind", "name", "field"], defArgs (top 31), defBody (top 31), defScope (top 31), d_schema_left, none, ""⟩
def d_schema_called : Df := ⟨4, 6, [(.exp (.call i_look_field [(.var 0), (.var 1), (.var 2)])), (.asg (.nm 4) (.comp (.tup [(.ite (.cmp .eq (.idx (.var 5) (.int 0)) (.var 2)) (.var 3) (.idx (.var 5) (.int 0))), (.idx (.var 5) (.int 1))]) (.nm 5) .one [(.call i_fields_of [(.var 0), (.var 1)])] [] [("field", 5)])), (.ret (.call i_looked [(.call i_with_fields [(.var 0), (.var 1), (.blt .tuple [(.var 4)])])]))]⟩
def t_schema_called : Tx := ⟨"schema_called", ["schema", "kind", "name", "new", "fields", "field"], defArgs (top 32), defBody (top 32), defScope (top 32), d_schema_called, none, ""⟩
def d_sort_named : Df := ⟨3, 3, [(.ife (.or [(.call i_is_plain [(.var 0)]), (.cmp .ne (.idx (.var 0) (.int 1)) (.var 1))]) [(.ret (.var 0))] []), (.ret (.tup [(.idx (.var 0) (.int 0)), (.var 2), (.idx (.var 0) (.int 2)), (.idx (.var 0) (.int 3))]))]⟩
def t_sort_named : Tx := ⟨"sort_named", ["sort", "kind", "new"], defArgs (top 33), defBody (top 33), defScope (top 33), d_sort_named, none, ""⟩
def d_schema_named : Df := ⟨3, 8, [(.exp (.call i_look_kind [(.var 0), (.var 1)])), (.own 3 (.lst [])), (.fr (.tp [(.nm 4), (.nm 5)]) .one [(.var 0)] [(.asg (.nm 6) (.blt .tuple [(.comp (.tup [(.idx (.var 7) (.int 0)), (.call i_sort_named [(.idx (.var 7) (.int 1)), (.var 1), (.var 2)])]) (.nm 7) .one [(.var 5)] [] [("field", 7)])])), (.app 3 (.tup [(.ite (.cmp .eq (.var 4) (.var 1)) (.var 2) (.var 4)), (.var 6)]))] [4, 5, 6]), (.ret (.call i_looked [(.blt .tuple [(.var 3)])]))]⟩
def t_schema_named : Tx := ⟨"schema_named", ["schema", "kind", "new", "made", "name", "fields", "named", "field"], defArgs (top 34), defBody (top 34), defScope (top 34), d_schema_named, none, ""⟩
def d_schema_less : Df := ⟨2, 3, [(.exp (.call i_look_kind [(.var 0), (.var 1)])), (.ret (.call i_looked [(.blt .tuple [(.comp (.var 2) (.nm 2) .one [(.var 0)] [(.cmp .ne (.idx (.var 2) (.int 0)) (.var 1))] [("one", 2)])])]))]⟩
def t_schema_less : Tx := ⟨"schema_less", ["schema", "kind", "one"], defArgs (top 35), defBody (top 35), defScope (top 35), d_schema_less, none, ""⟩
def d_moved_schema : Df := ⟨2, 2, [(.ife (.cmp .eq (.idx (.var 1) (.int 0)) (.str "add")) [(.ret (.call i_schema_added [(.var 0), (.idx (.var 1) (.int 1)), (.idx (.var 1) (.int 2)), (.idx (.var 1) (.int 3)), (.idx (.var 1) (.int 4))]))] []), (.ife (.cmp .eq (.idx (.var 1) (.int 0)) (.str "leave")) [(.ret (.call i_schema_left [(.var 0), (.idx (.var 1) (.int 1)), (.idx (.var 1) (.int 2))]))] []), (.ife (.cmp .eq (.idx (.var 1) (.int 0)) (.str "call")) [(.ret (.call i_schema_called [(.var 0), (.idx (.var 1) (.int 1)), (.idx (.var 1) (.int 2)), (.idx (.var 1) (.int 3))]))] []), (.ife (.cmp .eq (.idx (.var 1) (.int 0)) (.str "name")) [(.ret (.call i_schema_named [(.var 0), (.idx (.var 1) (.int 1)), (.idx (.var 1) (.int 2))]))] []), (.ife (.cmp .eq (.idx (.var 1) (.int 0)) (.str "more")) [(.ret (.call i_looked [(.op .add (.var 0) (.tup [(.tup [(.idx (.var 1) (.int 1)), (.idx (.var 1) (.int 2))])]))]))] []), (.ret (.call i_schema_less [(.var 0), (.idx (.var 1) (.int 1))]))]⟩
def t_moved_schema : Tx := ⟨"moved_schema", ["schema", "move"], defArgs (top 36), defBody (top 36), defScope (top 36), d_moved_schema, none, ""⟩
def d_moved_values : Df := ⟨4, 5, [(.ife (.and [(.cmp .eq (.idx (.var 3) (.int 0)) (.str "add")), (.cmp .eq (.idx (.var 3) (.int 1)) (.var 1))]) [(.ret (.op .add (.var 2) (.tup [(.idx (.var 3) (.int 4))])))] []), (.ife (.and [(.cmp .eq (.idx (.var 3) (.int 0)) (.str "leave")), (.cmp .eq (.idx (.var 3) (.int 1)) (.var 1))]) [(.asg (.nm 4) (.call i_place_of [(.var 0), (.var 1), (.idx (.var 3) (.int 2))])), (.ret (.op .add (.slH (.var 2) (.var 4)) (.slL (.var 2) (.op .add (.var 4) (.int 1)))))] []), (.ret (.var 2))]⟩
def t_moved_values : Tx := ⟨"moved_values", ["schema", "kind", "values", "move", "at"], defArgs (top 37), defBody (top 37), defScope (top 37), d_moved_values, none, ""⟩
def d_moved_shelf : Df := ⟨4, 5, [(.ret (.tup [(.idx (.var 2) (.int 0)), (.blt .tuple [(.comp (.tup [(.idx (.var 4) (.int 0)), (.idx (.var 4) (.int 1)), (.call i_moved_values [(.var 0), (.var 1), (.idx (.var 4) (.int 2)), (.var 3)])]) (.nm 4) .one [(.idx (.var 2) (.int 1))] [] [("row", 4)])])]))]⟩
def t_moved_shelf : Tx := ⟨"moved_shelf", ["schema", "kind", "shelf", "move", "row"], defArgs (top 38), defBody (top 38), defScope (top 38), d_moved_shelf, none, ""⟩
def d_moved_store : Df := ⟨3, 6, [(.exp (.call i_moved_schema [(.var 0), (.var 2)])), (.own 3 (.lst [])), (.fr (.tp [(.nm 4), (.nm 5)]) .zip [(.call i_kind_names [(.var 0)]), (.var 1)] [(.ife (.or [(.cmp .ne (.idx (.var 2) (.int 0)) (.str "less")), (.cmp .ne (.idx (.var 2) (.int 1)) (.var 4))]) [(.app 3 (.call i_moved_shelf [(.var 0), (.var 4), (.var 5), (.var 2)]))] [])] [4, 5]), (.ife (.cmp .eq (.idx (.var 2) (.int 0)) (.str "more")) [(.app 3 (.tup [(.int 1), (.tup [])]))] []), (.ret (.blt .tuple [(.var 3)]))]⟩
def t_moved_store : Tx := ⟨"moved_store", ["schema", "store", "move", "made", "kind", "shelf"], defArgs (top 39), defBody (top 39), defScope (top 39), d_moved_store, none, ""⟩
def d_all_moved : Df := ⟨3, 4, [(.fr (.nm 3) .one [(.var 2)] [(.asg (.nm 1) (.call i_moved_store [(.var 0), (.var 1), (.var 3)])), (.asg (.nm 0) (.call i_moved_schema [(.var 0), (.var 3)]))] [3]), (.ret (.tup [(.var 0), (.var 1)]))]⟩
def t_all_moved : Tx := ⟨"all_moved", ["schema", "store", "moves", "move"], defArgs (top 40), defBody (top 40), defScope (top 40), d_all_moved, none, ""⟩
def d__law_cell : Df := ⟨2, 2, [(.ife (.cmp .lt (.var 1) (.blt .len [(.var 0)])) [(.ret (.idx (.var 0) (.var 1)))] []), (.ife (.cmp .eq (.var 0) (.lst [])) [(.ret (.int 0))] []), (.ret (.op .add (.op .mul (.idx (.var 0) (.op .mod (.var 1) (.blt .len [(.var 0)]))) (.int 31)) (.var 1)))]⟩
def t__law_cell : Tx := ⟨"_law_cell", ["_law_script", "_law_k"], defArgs (top 42), defBody (top 42), defScope (top 42), d__law_cell, none, ""⟩
def d__law_pick : Df := ⟨3, 4, [(.asg (.nm 3) (.op .mod (.op .mul (.op .add (.call i__law_cell [(.var 0), (.var 1)]) (.op .mul (.int 6151) (.op .add (.var 1) (.int 1)))) (.int 40692)) (.int 2147483399))), (.ret (.op .mod (.op .mod (.op .add (.op .mul (.var 3) (.var 3)) (.op .fdiv (.var 3) (.int 31))) (.int 2147483629)) (.var 2)))]⟩
def t__law_pick : Tx := ⟨"_law_pick", ["_law_script", "_law_k", "_law_many", "_law_drawn"], defArgs (top 43), defBody (top 43), defScope (top 43), d__law_pick, none, ""⟩
def d__law_sort : Df := ⟨3, 6, [(.asg (.nm 3) (.call i__law_pick [(.var 0), (.var 1), (.int 7)])), (.ife (.cmp .lt (.var 3) (.int 3)) [(.ret (.idx (.lst [(.str "number"), (.str "number"), (.str "text")]) (.var 3)))] []), (.asg (.nm 4) (.cmp .gt (.call i__law_pick [(.var 0), (.op .add (.var 1) (.int 1)), (.int 3)]) (.int 0))), (.asg (.nm 5) (.idx (.lst [(.str "bar"), (.str "none"), (.str "along")]) (.call i__law_pick [(.var 0), (.op .add (.var 1) (.int 2)), (.int 3)]))), (.ife (.and [(.cmp .eq (.var 5) (.str "none")), (.not (.var 4))]) [(.asg (.nm 5) (.str "bar"))] []), (.ret (.tup [(.str "link"), (.idx (.var 2) (.call i__law_pick [(.var 0), (.op .add (.var 1) (.int 3)), (.blt .len [(.var 2)])])), (.var 4), (.var 5)]))]⟩
def t__law_sort : Tx := ⟨"_law_sort", ["_law_script", "_law_at", "_law_names", "_law_way", "_law_may", "_law_rule"], defArgs (top 44), defBody (top 44), defScope (top 44), d__law_sort, none, ""⟩
def d__law_schema : Df := ⟨2, 9, [(.asg (.nm 2) (.slH (.slL (.lst [(.str "oak"), (.str "a"), (.str "zzzzzz"), (.str "elm")]) (.call i__law_pick [(.var 0), (.var 1), (.int 2)])) (.op .add (.int 1) (.call i__law_pick [(.var 0), (.op .add (.var 1) (.int 1)), (.int 3)])))), (.own 3 (.lst [])), (.fr (.tp [(.nm 4), (.nm 5)]) .enum [(.var 2)] [(.asg (.nm 6) (.op .add (.int 1) (.call i__law_pick [(.var 0), (.op .add (.op .add (.var 1) (.int 2)) (.op .mul (.int 20) (.var 4))), (.int 4)]))), (.asg (.nm 7) (.comp (.tup [(.op .mul (.idx (.str "rpsq") (.var 8)) (.op .add (.int 1) (.var 4))), (.call i__law_sort [(.var 0), (.op .add (.op .add (.op .add (.var 1) (.int 3)) (.op .mul (.int 20) (.var 4))) (.op .mul (.int 4) (.var 8))), (.var 2)])]) (.nm 8) .rng [(.var 6)] [] [("_law_k", 8)])), (.app 3 (.tup [(.var 5), (.blt .tuple [(.var 7)])]))] [4, 5, 6, 7]), (.ret (.blt .tuple [(.var 3)]))]⟩
def t__law_schema : Tx := ⟨"_law_schema", ["_law_script", "_law_at", "_law_names", "_law_kinds", "_law_j", "_law_name", "_law_many", "_law_fields", "_law_k"], defArgs (top 45), defBody (top 45), defScope (top 45), d__law_schema, none, ""⟩
def d__law_counts : Df := ⟨4, 12, [(.own 4 (.dct false)), (.fr (.tp [(.nm 6), (.nm 7)]) .enum [(.var 2)] [(.put 4 (.idx (.var 7) (.int 0)) (.call i__law_pick [(.var 0), (.op .add (.var 1) (.var 6)), (.op .add (.var 3) (.int 1))]))] [6, 7]), (.fr (.nm 5) .rng [(.blt .len [(.var 2)])] [(.fr (.tp [(.nm 8), (.nm 9)]) .one [(.var 2)] [(.fr (.tp [(.nm 10), (.nm 11)]) .one [(.var 9)] [(.ife (.and [(.cmp .eq (.idx (.var 11) (.int 0)) (.str "link")), (.not (.idx (.var 11) (.int 2))), (.cmp .eq (.idx (.var 4) (.idx (.var 11) (.int 1))) (.int 0))]) [(.put 4 (.var 8) (.int 0))] [])] [10, 11])] [8, 9, 10, 11])] [5, 8, 9, 10, 11]), (.retO 4)]⟩
def t__law_counts : Tx := ⟨"_law_counts", ["_law_script", "_law_at", "_law_schema_here", "_law_most", "_law_counts_here", "_law_again", "_law_j", "_law_kind", "_law_name", "_law_fields", "_law_field", "_law_sort_here"], defArgs (top 46), defBody (top 46), defScope (top 46), d__law_counts, none, ""⟩
def d__law_plain : Df := ⟨3, 6, [(.asg (.nm 3) (.call i__law_pick [(.var 0), (.var 1), (.op .pow (.int 10) (.int 6))])), (.ife (.cmp .eq (.var 2) (.str "number")) [(.ret (.idx (.lst [(.int 0), (.int 1), (.neg (.int 1)), (.int 9999), (.neg (.int 9999)), (.op .sub (.op .mod (.var 3) (.int 19999)) (.int 9999)), (.op .sub (.op .mod (.var 3) (.int 20)) (.int 9))]) (.op .mod (.op .fdiv (.var 3) (.int 20000)) (.int 7))))] []), (.asg (.nm 4) (.str " !'#&,:;0123456789ABCXYZabcxyz~")), (.ret (.meth .join (.str "") [(.comp (.idx (.var 4) (.call i__law_pick [(.var 0), (.op .add (.var 1) (.var 5)), (.int 31)])) (.nm 5) .rng [(.idx (.lst [(.int 0), (.int 1), (.int 2), (.int 3), (.int 8)]) (.op .mod (.var 3) (.int 5)))] [] [("_law_k", 5)])]))]⟩
def t__law_plain : Tx := ⟨"_law_plain", ["_law_script", "_law_at", "_law_sort_here", "_law_drawn", "_law_signs", "_law_k"], defArgs (top 47), defBody (top 47), defScope (top 47), d__law_plain, none, ""⟩
def d__law_value : Df := ⟨4, 5, [(.ife (.cmp .ne (.idx (.var 2) (.int 0)) (.str "link")) [(.ret (.call i__law_plain [(.var 0), (.var 1), (.var 2)]))] []), (.asg (.nm 4) (.idx (.var 3) (.idx (.var 2) (.int 1)))), (.ife (.and [(.idx (.var 2) (.int 2)), (.or [(.cmp .eq (.var 4) (.lst [])), (.cmp .eq (.call i__law_pick [(.var 0), (.var 1), (.int 3)]) (.int 0))])]) [(.ret .non)] []), (.ret (.idx (.var 4) (.call i__law_pick [(.var 0), (.op .add (.var 1) (.int 1)), (.blt .len [(.var 4)])])))]⟩
def t__law_value : Tx := ⟨"_law_value", ["_law_script", "_law_at", "_law_sort_here", "_law_keys", "_law_some"], defArgs (top 48), defBody (top 48), defScope (top 48), d__law_value, none, ""⟩
def d__law_store : Df := ⟨4, 19, [(.asg (.nm 4) (.call i__law_counts [(.var 0), (.var 1), (.var 2), (.var 3)])), (.own 5 (.dct false)), (.fr (.tp [(.nm 7), (.nm 8)]) .enum [(.var 2)] [(.own 9 (.lst [])), (.fr (.nm 10) .rng [(.idx (.var 4) (.idx (.var 8) (.int 0)))] [(.app 9 (.op .add (.op .add (.blt .max [(.op .add (.lst [(.int 0)]) (.var 9))]) (.int 1)) (.call i__law_pick [(.var 0), (.op .add (.op .add (.op .add (.var 1) (.int 5)) (.op .mul (.int 7) (.var 7))) (.var 10)), (.int 2)])))] [10]), (.frz [9] (.put 5 (.idx (.var 8) (.int 0)) (.var 9)))] [7, 8, 9, 10]), (.own 6 (.lst [])), (.fr (.tp [(.nm 7), (.tp [(.nm 12), (.nm 13)])]) .enum [(.var 2)] [(.own 11 (.lst [])), (.fr (.tp [(.nm 10), (.nm 14)]) .enum [(.idx (.var 5) (.var 12))] [(.asg (.nm 15) (.op .add (.op .add (.op .add (.var 1) (.int 30)) (.op .mul (.int 150) (.var 7))) (.op .mul (.int 30) (.var 10)))), (.frz [5] (.asg (.nm 16) (.comp (.call i__law_value [(.var 0), (.op .add (.var 15) (.op .mul (.int 7) (.var 17))), (.idx (.var 18) (.int 1)), (.var 5)]) (.tp [(.nm 17), (.nm 18)]) .enum [(.var 13)] [] [("_law_f", 17), ("_law_field", 18)]))), (.app 11 (.tup [(.var 14), (.op .add (.int 1) (.call i__law_pick [(.var 0), (.op .add (.var 15) (.int 28)), (.int 3)])), (.blt .tuple [(.var 16)])]))] [10, 14, 15, 16]), (.app 6 (.tup [(.op .add (.op .add (.blt .max [(.op .add (.lst [(.int 0)]) (.idx (.var 5) (.var 12)))]) (.int 1)) (.call i__law_pick [(.var 0), (.op .add (.var 1) (.int 4)), (.int 2)])), (.blt .tuple [(.var 11)])]))] [7, 10, 11, 12, 13, 14, 15, 16]), (.ret (.blt .tuple [(.var 6)]))]⟩
def t__law_store : Tx := ⟨"_law_store", ["_law_script", "_law_at", "_law_schema_here", "_law_most", "_law_counts_here", "_law_keys", "_law_shelves", "_law_j", "_law_kind", "_law_row", "_law_k", "_law_rows", "_law_name", "_law_fields", "_law_key", "_law_base", "_law_values", "_law_f", "_law_field"], defArgs (top 49), defBody (top 49), defScope (top 49), d__law_store, none, ""⟩
def d__law_new_name : Df := ⟨3, 3, [(.ret (.idx (.op .add (.lst [(.str "new"), (.str "n"), (.str "abcdef"), (.str "b"), (.str "y"), (.str "w"), (.str "abcdefg"), (.str "N"), (.str "")]) (.var 2)) (.call i__law_pick [(.var 0), (.var 1), (.op .add (.int 9) (.blt .len [(.var 2)]))])))]⟩
def t__law_new_name : Tx := ⟨"_law_new_name", ["_law_script", "_law_at", "_law_taken"], defArgs (top 50), defBody (top 50), defScope (top 50), d__law_new_name, none, ""⟩
def d__law_move : Df := ⟨3, 13, [(.asg (.nm 3) (.comp (.idx (.var 4) (.int 0)) (.nm 4) .one [(.var 2)] [] [("_law_kind", 4)])), (.asg (.nm 4) (.idx (.op .add (.op .add (.op .add (.var 3) (.var 3)) (.var 3)) (.lst [(.str "none")])) (.call i__law_pick [(.var 0), (.var 1), (.op .add (.op .mul (.int 3) (.blt .len [(.var 3)])) (.int 1))]))), (.asg (.nm 5) (.comp (.idx (.var 11) (.int 0)) (.nm 11) .one [(.meth .get (.blt .dict [(.var 2)]) [(.var 4), (.tup [])])] [] [("_law_field", 11)])), (.asg (.nm 6) (.idx (.op .add (.op .add (.op .add (.var 5) (.var 5)) (.var 5)) (.lst [(.str "none")])) (.call i__law_pick [(.var 0), (.op .add (.var 1) (.int 1)), (.op .add (.op .mul (.int 3) (.blt .len [(.var 5)])) (.int 1))]))), (.asg (.nm 7) (.call i__law_pick [(.var 0), (.op .add (.var 1) (.int 2)), (.int 8)])), (.ife (.cmp .lt (.var 7) (.int 2)) [(.asg (.nm 8) (.call i__law_sort [(.var 0), (.op .add (.var 1) (.int 3)), (.var 3)])), (.asg (.nm 9) (.ite (.cmp .ne (.idx (.var 8) (.int 0)) (.str "link")) (.call i__law_plain [(.var 0), (.op .add (.var 1) (.int 8)), (.var 8)]) .non)), (.ife (.cmp .eq (.call i__law_pick [(.var 0), (.op .add (.var 1) (.int 18)), (.int 6)]) (.int 0)) [(.asg (.nm 9) (.idx (.lst [.non, (.int 10000), (.str "123456789"), (.int 1)]) (.call i__law_pick [(.var 0), (.op .add (.var 1) (.int 19)), (.int 4)])))] []), (.ret (.tup [(.str "add"), (.var 4), (.call i__law_new_name [(.var 0), (.op .add (.var 1) (.int 17)), (.var 5)]), (.var 8), (.var 9)]))] []), (.ife (.cmp .lt (.var 7) (.int 4)) [(.ret (.tup [(.str "leave"), (.var 4), (.var 6)]))] []), (.ife (.cmp .eq (.var 7) (.int 4)) [(.ret (.tup [(.str "call"), (.var 4), (.var 6), (.call i__law_new_name [(.var 0), (.op .add (.var 1) (.int 17)), (.var 5)])]))] []), (.ife (.cmp .eq (.var 7) (.int 5)) [(.ret (.tup [(.str "name"), (.var 4), (.call i__law_new_name [(.var 0), (.op .add (.var 1) (.int 17)), (.var 3)])]))] []), (.ife (.cmp .eq (.var 7) (.int 6)) [(.asg (.nm 10) (.comp (.tup [(.idx (.str "qrp") (.var 12)), (.call i__law_sort [(.var 0), (.op .add (.op .add (.var 1) (.int 4)) (.op .mul (.int 4) (.var 12))), (.var 3)])]) (.nm 12) .rng [(.op .add (.int 1) (.call i__law_pick [(.var 0), (.op .add (.var 1) (.int 3)), (.int 3)]))] [] [("_law_k", 12)])), (.ret (.tup [(.str "more"), (.call i__law_new_name [(.var 0), (.op .add (.var 1) (.int 17)), (.var 3)]), (.blt .tuple [(.var 10)])]))] []), (.ret (.tup [(.str "less"), (.var 4)]))]⟩
def t__law_move : Tx := ⟨"_law_move", ["_law_script", "_law_at", "_law_schema_here", "_law_names", "_law_kind", "_law_taken", "_law_name", "_law_way", "_law_sort_here", "_law_value_here", "_law_fields", "_law_field", "_law_k"], defArgs (top 51), defBody (top 51), defScope (top 51), d__law_move, none, ""⟩
def d__law_can_be : Df := ⟨2, 4, [(.asg (.nm 2) .non), (.tryk [(.exp (.call i_moved_schema [(.var 0), (.var 1)]))] "BadMove" 1 3 2), (.ret (.isN (.var 2)))]⟩
def t__law_can_be : Tx := ⟨"_law_can_be", ["_law_schema_here", "_law_move_here", "_law_kept", "e"], defArgs (top 52), defBody (top 52), defScope (top 52), d__law_can_be, none, ""⟩
def d_law : Df := ⟨1, 7, [(.asg (.nm 1) (.call i__law_schema [(.var 0), (.int 0)])), (.asg (.nm 2) (.call i__law_store [(.var 0), (.int 70), (.var 1), (.int 4)])), (.own 3 (.lst [])), (.fr (.nm 4) .rng [(.int 8)] [(.asg (.nm 5) (.call i__law_move [(.var 0), (.op .add (.int 610) (.op .mul (.int 25) (.var 4))), (.var 1)])), (.ife (.and [(.cmp .isin (.idx (.var 5) (.int 0)) (.tup [(.str "add"), (.str "leave"), (.str "call")])), (.cmp .notin (.idx (.var 5) (.int 1)) (.comp (.idx (.var 6) (.int 1)) (.nm 6) .one [(.var 3)] [] [("_law_one", 6)]))]) [(.ife (.call i__law_can_be [(.var 1), (.var 5)]) [(.app 3 (.var 5))] [])] [])] [4, 5]), (.ife (.cmp .lt (.blt .len [(.var 3)]) (.int 2)) [(.ret (.bl true))] []), (.frz [3] (.ret (.cmp .eq (.call i_all_moved [(.var 1), (.var 2), (.var 3)]) (.call i_all_moved [(.var 1), (.var 2), (.rev (.var 3))]))))]⟩
def t_law : Tx := ⟨"law", ["_law_script", "_law_schema_here", "_law_store_here", "_law_moves", "_law_j", "_law_move_here", "_law_one"], defArgs (top 53), defBody (top 53), defScope (top 53), d_law, none, ""⟩
def ts_0 : List Tx := [t_is_whole, t_is_name, t_is_sort, t_is_field, t_is_kind, t_leads_to_some, t_is_schema, t_is_plain, t_kind_names, t_fields_of, t_place_of, t_is_text]
def ts_1 : List Tx := [t_is_plain_value, t_looked, t_look_kind, t_look_field, t_with_fields, t_is_first_value, t_schema_added, t_schema_left, t_schema_called, t_sort_named, t_schema_named, t_schema_less]
def ts_2 : List Tx := [t_moved_schema, t_moved_values, t_moved_shelf, t_moved_store, t_all_moved, t__law_cell, t__law_pick, t__law_sort, t__law_schema, t__law_counts, t__law_plain, t__law_value]
def ts_3 : List Tx := [t__law_store, t__law_new_name, t__law_move, t__law_can_be, t_law]
def ts : List Tx := ts_0 ++ ts_1 ++ ts_2 ++ ts_3
def M : Md := ⟨ts.map fun t => (t.name, t.d.np, t.cl), [("LETTERS", .str "abcdefghijklmnopqrstuvwxyz"), ("MOST_KINDS", .int 4), ("MOST_FIELDS", .int 5), ("LONGEST_NAME", .int 6), ("LONGEST_TEXT", .int 8), ("TOP", .int 9999)], [("RULES", [.str "bar", .str "none", .str "along"])], ["HeldError", "BadMove"], [], []⟩
def pu : Nat → Bool := fun _ => true
theorem same : txB M pu 0 ts = true := by kernel_rfl
theorem clOk : ts.all (clB M) = true := by kernel_rfl
theorem b_is_whole : Bd t_is_whole := .of ["thing"] rfl fun _ _ _ _ _ _ us hl => match us, hl with | [_], _ => rfl
theorem b_is_name : Bd t_is_name := .of ["thing"] rfl fun _ _ _ _ _ _ us hl => match us, hl with | [_], _ => rfl
theorem b_is_sort : Bd t_is_sort := .of ["thing"] rfl fun _ _ _ _ _ _ us hl => match us, hl with | [_], _ => rfl
theorem b_is_field : Bd t_is_field := .of ["thing"] rfl fun _ _ _ _ _ _ us hl => match us, hl with | [_], _ => rfl
theorem b_is_kind : Bd t_is_kind := .of ["thing"] rfl fun _ _ _ _ _ _ us hl => match us, hl with | [_], _ => rfl
theorem b_leads_to_some : Bd t_leads_to_some := .of ["kind", "names"] rfl fun _ _ _ _ _ _ us hl => match us, hl with | [_, _], _ => rfl
theorem b_is_schema : Bd t_is_schema := .of ["thing"] rfl fun _ _ _ _ _ _ us hl => match us, hl with | [_], _ => rfl
theorem b_is_plain : Bd t_is_plain := .of ["sort"] rfl fun _ _ _ _ _ _ us hl => match us, hl with | [_], _ => rfl
theorem b_kind_names : Bd t_kind_names := .of ["schema"] rfl fun _ _ _ _ _ _ us hl => match us, hl with | [_], _ => rfl
theorem b_fields_of : Bd t_fields_of := .of ["schema", "kind"] rfl fun _ _ _ _ _ _ us hl => match us, hl with | [_, _], _ => rfl
theorem b_place_of : Bd t_place_of := .of ["schema", "kind", "field"] rfl fun _ _ _ _ _ _ us hl => match us, hl with | [_, _, _], _ => rfl
theorem b_is_text : Bd t_is_text := .of ["thing"] rfl fun _ _ _ _ _ _ us hl => match us, hl with | [_], _ => rfl
theorem b_is_plain_value : Bd t_is_plain_value := .of ["sort", "thing"] rfl fun _ _ _ _ _ _ us hl => match us, hl with | [_, _], _ => rfl
theorem b_looked : Bd t_looked := .of ["schema"] rfl fun _ _ _ _ _ _ us hl => match us, hl with | [_], _ => rfl
theorem b_look_kind : Bd t_look_kind := .of ["schema", "kind"] rfl fun _ _ _ _ _ _ us hl => match us, hl with | [_, _], _ => rfl
theorem b_look_field : Bd t_look_field := .of ["schema", "kind", "name"] rfl fun _ _ _ _ _ _ us hl => match us, hl with | [_, _, _], _ => rfl
theorem b_with_fields : Bd t_with_fields := .of ["schema", "kind", "fields"] rfl fun _ _ _ _ _ _ us hl => match us, hl with | [_, _, _], _ => rfl
theorem b_is_first_value : Bd t_is_first_value := .of ["sort", "value"] rfl fun _ _ _ _ _ _ us hl => match us, hl with | [_, _], _ => rfl
theorem b_schema_added : Bd t_schema_added := .of ["schema", "kind", "name", "sort", "value"] rfl fun _ _ _ _ _ _ us hl => match us, hl with | [_, _, _, _, _], _ => rfl
theorem b_schema_left : Bd t_schema_left := .of ["schema", "kind", "name"] rfl fun _ _ _ _ _ _ us hl => match us, hl with | [_, _, _], _ => rfl
theorem b_schema_called : Bd t_schema_called := .of ["schema", "kind", "name", "new"] rfl fun _ _ _ _ _ _ us hl => match us, hl with | [_, _, _, _], _ => rfl
theorem b_sort_named : Bd t_sort_named := .of ["sort", "kind", "new"] rfl fun _ _ _ _ _ _ us hl => match us, hl with | [_, _, _], _ => rfl
theorem b_schema_named : Bd t_schema_named := .of ["schema", "kind", "new"] rfl fun _ _ _ _ _ _ us hl => match us, hl with | [_, _, _], _ => rfl
theorem b_schema_less : Bd t_schema_less := .of ["schema", "kind"] rfl fun _ _ _ _ _ _ us hl => match us, hl with | [_, _], _ => rfl
theorem b_moved_schema : Bd t_moved_schema := .of ["schema", "move"] rfl fun _ _ _ _ _ _ us hl => match us, hl with | [_, _], _ => rfl
theorem b_moved_values : Bd t_moved_values := .of ["schema", "kind", "values", "move"] rfl fun _ _ _ _ _ _ us hl => match us, hl with | [_, _, _, _], _ => rfl
theorem b_moved_shelf : Bd t_moved_shelf := .of ["schema", "kind", "shelf", "move"] rfl fun _ _ _ _ _ _ us hl => match us, hl with | [_, _, _, _], _ => rfl
theorem b_moved_store : Bd t_moved_store := .of ["schema", "store", "move"] rfl fun _ _ _ _ _ _ us hl => match us, hl with | [_, _, _], _ => rfl
theorem b_all_moved : Bd t_all_moved := .of ["schema", "store", "moves"] rfl fun _ _ _ _ _ _ us hl => match us, hl with | [_, _, _], _ => rfl
theorem b__law_cell : Bd t__law_cell := .of ["_law_script", "_law_k"] rfl fun _ _ _ _ _ _ us hl => match us, hl with | [_, _], _ => rfl
theorem b__law_pick : Bd t__law_pick := .of ["_law_script", "_law_k", "_law_many"] rfl fun _ _ _ _ _ _ us hl => match us, hl with | [_, _, _], _ => rfl
theorem b__law_sort : Bd t__law_sort := .of ["_law_script", "_law_at", "_law_names"] rfl fun _ _ _ _ _ _ us hl => match us, hl with | [_, _, _], _ => rfl
theorem b__law_schema : Bd t__law_schema := .of ["_law_script", "_law_at"] rfl fun _ _ _ _ _ _ us hl => match us, hl with | [_, _], _ => rfl
theorem b__law_counts : Bd t__law_counts := .of ["_law_script", "_law_at", "_law_schema_here", "_law_most"] rfl fun _ _ _ _ _ _ us hl => match us, hl with | [_, _, _, _], _ => rfl
theorem b__law_plain : Bd t__law_plain := .of ["_law_script", "_law_at", "_law_sort_here"] rfl fun _ _ _ _ _ _ us hl => match us, hl with | [_, _, _], _ => rfl
theorem b__law_value : Bd t__law_value := .of ["_law_script", "_law_at", "_law_sort_here", "_law_keys"] rfl fun _ _ _ _ _ _ us hl => match us, hl with | [_, _, _, _], _ => rfl
theorem b__law_store : Bd t__law_store := .of ["_law_script", "_law_at", "_law_schema_here", "_law_most"] rfl fun _ _ _ _ _ _ us hl => match us, hl with | [_, _, _, _], _ => rfl
theorem b__law_new_name : Bd t__law_new_name := .of ["_law_script", "_law_at", "_law_taken"] rfl fun _ _ _ _ _ _ us hl => match us, hl with | [_, _, _], _ => rfl
theorem b__law_move : Bd t__law_move := .of ["_law_script", "_law_at", "_law_schema_here"] rfl fun _ _ _ _ _ _ us hl => match us, hl with | [_, _, _], _ => rfl
theorem b__law_can_be : Bd t__law_can_be := .of ["_law_schema_here", "_law_move_here"] rfl fun _ _ _ _ _ _ us hl => match us, hl with | [_, _], _ => rfl
theorem b_law : Bd t_law := .of ["_law_script"] rfl fun _ _ _ _ _ _ us hl => match us, hl with | [_], _ => rfl
theorem bd_0 : AllT Bd ts_0 := (.cons b_is_whole (.cons b_is_name (.cons b_is_sort (.cons b_is_field (.cons b_is_kind (.cons b_leads_to_some (.cons b_is_schema (.cons b_is_plain (.cons b_kind_names (.cons b_fields_of (.cons b_place_of (.cons b_is_text .nil))))))))))))
theorem bd_1 : AllT Bd ts_1 := (.cons b_is_plain_value (.cons b_looked (.cons b_look_kind (.cons b_look_field (.cons b_with_fields (.cons b_is_first_value (.cons b_schema_added (.cons b_schema_left (.cons b_schema_called (.cons b_sort_named (.cons b_schema_named (.cons b_schema_less .nil))))))))))))
theorem bd_2 : AllT Bd ts_2 := (.cons b_moved_schema (.cons b_moved_values (.cons b_moved_shelf (.cons b_moved_store (.cons b_all_moved (.cons b__law_cell (.cons b__law_pick (.cons b__law_sort (.cons b__law_schema (.cons b__law_counts (.cons b__law_plain (.cons b__law_value .nil))))))))))))
theorem bd_3 : AllT Bd ts_3 := (.cons b__law_store (.cons b__law_new_name (.cons b__law_move (.cons b__law_can_be (.cons b_law .nil)))))
theorem bds : AllT Bd ts := (((bd_0.app bd_1).app bd_2).app bd_3)
/-! ### the head -/
def loose : List PySem.Str := (["HeldError", "BadMove", "LETTERS", "RULES", "MOST_KINDS", "MOST_FIELDS", "LONGEST_NAME", "LONGEST_TEXT", "TOP", "is_whole", "is_name", "is_sort"] : List PySem.Str) ++ (["is_field", "is_kind", "leads_to_some", "is_schema", "is_plain", "kind_names", "fields_of", "place_of", "is_text", "is_plain_value", "looked", "look_kind"] : List PySem.Str) ++ (["look_field", "with_fields", "is_first_value", "schema_added", "schema_left", "schema_called", "sort_named", "schema_named", "schema_less", "moved_schema", "moved_values", "moved_shelf"] : List PySem.Str) ++ (["moved_store", "all_moved", "_law_cell", "_law_pick", "_law_sort", "_law_schema", "_law_counts", "_law_plain", "_law_value", "_law_store", "_law_new_name", "_law_move"] : List PySem.Str) ++ (["_law_can_be"] : List PySem.Str)
abbrev R : PySem.W.OpenRow := PySem.W.OpenLaw.row PySem.Challenge.rw_heldrows_k73_whole_moves_apart
abbrev hk : PySem.W.Hook := hookX 4 M ts
def ob (s : PySem.W.SharedT) : AlX := obsXG 4 M ts (HandSHeadRun.getT s)
theorem ob_eq (s : PySem.W.SharedT) : ob s = hk.obs s.abs := obsXG_eq (HandSHeadRun.getT_eq s)
theorem hdRun (w : World) : HandSHeadRun.RunEq R (PySem.W.view R.prog [53]) hk ob 4000 loose w := by
  intro os
  kernel_rfl
theorem ex_TT : ∃ T : Tb, T = tb (dsOf ts) pu 11 := ⟨_, rfl⟩
/-- the table, shut: nothing is computed through it -/
noncomputable def TT : Tb := Classical.choose ex_TT
theorem TT_eq : TT = tb (dsOf ts) pu 11 := Classical.choose_spec ex_TT
def LF : Nat := 40
def rk (f : Nat) : Nat := [0, 0, 1, 2, 3, 1, 4, 0, 0, 1, 2, 0, 1, 5, 1, 2, 0, 2, 6, 6, 6, 1, 6, 6, 7, 3, 4, 8, 9, 0, 1, 2, 3, 2, 2, 3, 4, 2, 3, 8, 10].getD f 0
theorem low : lowT rk 0 ts = true := by kernel_rfl
theorem TT_pu (f : Nat) : TT.pu f = true := by rw [TT_eq, tb_pu]; rfl
theorem f_is_whole : TT.fn i_is_whole = D.run TT d_is_whole := by rw [TT_eq]; exact tb_fix (D := 11) (low_ds low) (by kernel_rfl) (by decide +kernel)
theorem f_is_name : TT.fn i_is_name = D.run TT d_is_name := by rw [TT_eq]; exact tb_fix (D := 11) (low_ds low) (by kernel_rfl) (by decide +kernel)
theorem f_is_sort : TT.fn i_is_sort = D.run TT d_is_sort := by rw [TT_eq]; exact tb_fix (D := 11) (low_ds low) (by kernel_rfl) (by decide +kernel)
theorem f_is_field : TT.fn i_is_field = D.run TT d_is_field := by rw [TT_eq]; exact tb_fix (D := 11) (low_ds low) (by kernel_rfl) (by decide +kernel)
theorem f_is_kind : TT.fn i_is_kind = D.run TT d_is_kind := by rw [TT_eq]; exact tb_fix (D := 11) (low_ds low) (by kernel_rfl) (by decide +kernel)
theorem f_leads_to_some : TT.fn i_leads_to_some = D.run TT d_leads_to_some := by rw [TT_eq]; exact tb_fix (D := 11) (low_ds low) (by kernel_rfl) (by decide +kernel)
theorem f_is_schema : TT.fn i_is_schema = D.run TT d_is_schema := by rw [TT_eq]; exact tb_fix (D := 11) (low_ds low) (by kernel_rfl) (by decide +kernel)
theorem f_is_plain : TT.fn i_is_plain = D.run TT d_is_plain := by rw [TT_eq]; exact tb_fix (D := 11) (low_ds low) (by kernel_rfl) (by decide +kernel)
theorem f_kind_names : TT.fn i_kind_names = D.run TT d_kind_names := by rw [TT_eq]; exact tb_fix (D := 11) (low_ds low) (by kernel_rfl) (by decide +kernel)
theorem f_fields_of : TT.fn i_fields_of = D.run TT d_fields_of := by rw [TT_eq]; exact tb_fix (D := 11) (low_ds low) (by kernel_rfl) (by decide +kernel)
theorem f_place_of : TT.fn i_place_of = D.run TT d_place_of := by rw [TT_eq]; exact tb_fix (D := 11) (low_ds low) (by kernel_rfl) (by decide +kernel)
theorem f_is_text : TT.fn i_is_text = D.run TT d_is_text := by rw [TT_eq]; exact tb_fix (D := 11) (low_ds low) (by kernel_rfl) (by decide +kernel)
theorem f_is_plain_value : TT.fn i_is_plain_value = D.run TT d_is_plain_value := by rw [TT_eq]; exact tb_fix (D := 11) (low_ds low) (by kernel_rfl) (by decide +kernel)
theorem f_looked : TT.fn i_looked = D.run TT d_looked := by rw [TT_eq]; exact tb_fix (D := 11) (low_ds low) (by kernel_rfl) (by decide +kernel)
theorem f_look_kind : TT.fn i_look_kind = D.run TT d_look_kind := by rw [TT_eq]; exact tb_fix (D := 11) (low_ds low) (by kernel_rfl) (by decide +kernel)
theorem f_look_field : TT.fn i_look_field = D.run TT d_look_field := by rw [TT_eq]; exact tb_fix (D := 11) (low_ds low) (by kernel_rfl) (by decide +kernel)
theorem f_with_fields : TT.fn i_with_fields = D.run TT d_with_fields := by rw [TT_eq]; exact tb_fix (D := 11) (low_ds low) (by kernel_rfl) (by decide +kernel)
theorem f_is_first_value : TT.fn i_is_first_value = D.run TT d_is_first_value := by rw [TT_eq]; exact tb_fix (D := 11) (low_ds low) (by kernel_rfl) (by decide +kernel)
theorem f_schema_added : TT.fn i_schema_added = D.run TT d_schema_added := by rw [TT_eq]; exact tb_fix (D := 11) (low_ds low) (by kernel_rfl) (by decide +kernel)
theorem f_schema_left : TT.fn i_schema_left = D.run TT d_schema_left := by rw [TT_eq]; exact tb_fix (D := 11) (low_ds low) (by kernel_rfl) (by decide +kernel)
theorem f_schema_called : TT.fn i_schema_called = D.run TT d_schema_called := by rw [TT_eq]; exact tb_fix (D := 11) (low_ds low) (by kernel_rfl) (by decide +kernel)
theorem f_sort_named : TT.fn i_sort_named = D.run TT d_sort_named := by rw [TT_eq]; exact tb_fix (D := 11) (low_ds low) (by kernel_rfl) (by decide +kernel)
theorem f_schema_named : TT.fn i_schema_named = D.run TT d_schema_named := by rw [TT_eq]; exact tb_fix (D := 11) (low_ds low) (by kernel_rfl) (by decide +kernel)
theorem f_schema_less : TT.fn i_schema_less = D.run TT d_schema_less := by rw [TT_eq]; exact tb_fix (D := 11) (low_ds low) (by kernel_rfl) (by decide +kernel)
theorem f_moved_schema : TT.fn i_moved_schema = D.run TT d_moved_schema := by rw [TT_eq]; exact tb_fix (D := 11) (low_ds low) (by kernel_rfl) (by decide +kernel)
theorem f_moved_values : TT.fn i_moved_values = D.run TT d_moved_values := by rw [TT_eq]; exact tb_fix (D := 11) (low_ds low) (by kernel_rfl) (by decide +kernel)
theorem f_moved_shelf : TT.fn i_moved_shelf = D.run TT d_moved_shelf := by rw [TT_eq]; exact tb_fix (D := 11) (low_ds low) (by kernel_rfl) (by decide +kernel)
theorem f_moved_store : TT.fn i_moved_store = D.run TT d_moved_store := by rw [TT_eq]; exact tb_fix (D := 11) (low_ds low) (by kernel_rfl) (by decide +kernel)
theorem f_all_moved : TT.fn i_all_moved = D.run TT d_all_moved := by rw [TT_eq]; exact tb_fix (D := 11) (low_ds low) (by kernel_rfl) (by decide +kernel)
theorem f__law_cell : TT.fn i__law_cell = D.run TT d__law_cell := by rw [TT_eq]; exact tb_fix (D := 11) (low_ds low) (by kernel_rfl) (by decide +kernel)
theorem f__law_pick : TT.fn i__law_pick = D.run TT d__law_pick := by rw [TT_eq]; exact tb_fix (D := 11) (low_ds low) (by kernel_rfl) (by decide +kernel)
theorem f__law_sort : TT.fn i__law_sort = D.run TT d__law_sort := by rw [TT_eq]; exact tb_fix (D := 11) (low_ds low) (by kernel_rfl) (by decide +kernel)
theorem f__law_schema : TT.fn i__law_schema = D.run TT d__law_schema := by rw [TT_eq]; exact tb_fix (D := 11) (low_ds low) (by kernel_rfl) (by decide +kernel)
theorem f__law_counts : TT.fn i__law_counts = D.run TT d__law_counts := by rw [TT_eq]; exact tb_fix (D := 11) (low_ds low) (by kernel_rfl) (by decide +kernel)
theorem f__law_plain : TT.fn i__law_plain = D.run TT d__law_plain := by rw [TT_eq]; exact tb_fix (D := 11) (low_ds low) (by kernel_rfl) (by decide +kernel)
theorem f__law_value : TT.fn i__law_value = D.run TT d__law_value := by rw [TT_eq]; exact tb_fix (D := 11) (low_ds low) (by kernel_rfl) (by decide +kernel)
theorem f__law_store : TT.fn i__law_store = D.run TT d__law_store := by rw [TT_eq]; exact tb_fix (D := 11) (low_ds low) (by kernel_rfl) (by decide +kernel)
theorem f__law_new_name : TT.fn i__law_new_name = D.run TT d__law_new_name := by rw [TT_eq]; exact tb_fix (D := 11) (low_ds low) (by kernel_rfl) (by decide +kernel)
theorem f__law_move : TT.fn i__law_move = D.run TT d__law_move := by rw [TT_eq]; exact tb_fix (D := 11) (low_ds low) (by kernel_rfl) (by decide +kernel)
theorem f__law_can_be : TT.fn i__law_can_be = D.run TT d__law_can_be := by rw [TT_eq]; exact tb_fix (D := 11) (low_ds low) (by kernel_rfl) (by decide +kernel)
theorem f_law : TT.fn i_law = D.run TT d_law := by rw [TT_eq]; exact tb_fix (D := 11) (low_ds low) (by kernel_rfl) (by decide +kernel)
/-! ### what is drawn -/
inductive IsScr : PV → List Int → Prop
  | scr (ns : List Int) : IsScr (.scr ns) ns
  | lst (ns : List Int) : IsScr (.lst (ns.map .int)) ns
def cellF (ns : List Int) (k : Int) : Int := if k < ns.length then ns.getD k.toNat 0 else if ns = [] then 0 else ns.getD (k % ns.length).toNat 0 * 31 + k
theorem at_ns {ns : List Int} {k : Int} (h0 : 0 ≤ k) (h1 : k < ns.length) : atI ns k = some (ns.getD k.toNat 0) := by
  have h : k.toNat < ns.length := by omega
  rw [atI_of h0, List.getElem?_eq_getElem h, List.getD_eq_getElem?_getD, List.getElem?_eq_getElem h]
  rfl
theorem at_il {ns : List Int} {k : Int} (h0 : 0 ≤ k) (h1 : k < ns.length) : atI (ns.map PV.int) k = some (.int (ns.getD k.toNat 0)) := by
  have h : k.toNat < ns.length := by omega
  rw [atI_of h0, List.getElem?_map, List.getElem?_eq_getElem h, List.getD_eq_getElem?_getD, List.getElem?_eq_getElem h]
  rfl
theorem eq_nil_il (ns : List Int) : cmpOp .eq (.lst (ns.map .int)) (.lst []) = some (decide (ns = [])) := by
  rw [c_eq (by simp only [dat]; exact dats_map fun x _ => dat_int 59 x) rfl]
  cases ns <;> simp [eqv, eqvs]
theorem eq_nil_scr (ns : List Int) : cmpOp .eq (.scr ns) (.lst []) = some (decide (ns = [])) := by
  show (if dats 59 [] then some (eqI ns []) else none) = _
  cases ns <;> simp [dats, eqI]
@[simp] theorem idx_scr (ns : List Int) (i : Int) : idxV (.scr ns) (.int i) = (atI ns i).map .int := rfl
theorem w_cell {sv : PV} {ns : List Int} (hs : IsScr sv ns) {k : Int} (hk : 0 ≤ k) (W : Om) : TT.fn i__law_cell [sv, .int k] W = .ok (.val (.int (cellF ns k))) W := by
  rw [f__law_cell, run_eq rfl]
  unfold cellF
  by_cases h1 : k < ns.length
  · cases hs <;> simp [d__law_cell, exs_cons, h1, at_ns hk h1, at_il hk h1]
  · by_cases h2 : ns = []
    · subst h2
      have h1 : ¬ k < 0 := by omega
      have e := eq_nil_il []
      simp at e
      cases hs <;> simp [d__law_cell, exs_cons, h1, e, eq_nil_scr]
    · have hp : (0 : Int) < ns.length := by
        have := List.length_pos_iff.mpr h2
        omega
      have b0 := Int.emod_nonneg k (show (ns.length : Int) ≠ 0 by omega)
      have b1 := Int.emod_lt_of_pos k hp
      cases hs <;> simp [d__law_cell, exs_cons, h1, h2, eq_nil_il, eq_nil_scr, b_mod hp, at_ns b0 b1, at_il b0 b1, b_mul (b := 31) (.inr (by decide))]
def pickF (ns : List Int) (k m : Int) : Int :=
  let d := (cellF ns k + 6151 * (k + 1)) * 40692 % 2147483399
  (d * d + d / 31) % 2147483629 % m
theorem pick_bd (ns : List Int) (k : Int) {m : Int} (h : 0 < m) : 0 ≤ pickF ns k m ∧ pickF ns k m < m := ⟨Int.emod_nonneg _ (by omega), Int.emod_lt_of_pos _ h⟩
theorem w_pick {sv : PV} {ns : List Int} (hs : IsScr sv ns) {k m : Int} (hk : 0 ≤ k) (hm : 0 < m) (W : Om) : TT.fn i__law_pick [sv, .int k, .int m] W = .ok (.val (.int (pickF ns k m))) W := by
  rw [f__law_pick, run_eq rfl]
  have hc := w_cell hs hk W
  have h1 := Int.emod_nonneg ((cellF ns k + 6151 * (k + 1)) * 40692) (show (2147483399 : Int) ≠ 0 by decide)
  have h2 := Int.emod_lt_of_pos ((cellF ns k + 6151 * (k + 1)) * 40692) (show (0 : Int) < 2147483399 by decide)
  have hs : D.small64 ((cellF ns k + 6151 * (k + 1)) * 40692 % 2147483399) = true := by
    unfold D.small64
    simp only [Bool.and_eq_true, decide_eq_true_eq]
    omega
  simp [d__law_pick, exs_cons, hc, b_mul (a := 6151) (.inl (by decide)), b_mul (b := 40692) (.inr (by decide)), b_mod, b_mul (.inl hs), b_fdiv, hm, pickF]
/-- a number drawn, as a natural one (nothing to be computed) -/
theorem ex_pk (ns : List Int) (k m : Int) : ∃ q : Nat, 0 < m → pickF ns k m = (q : Int) := ⟨(pickF ns k m).toNat, fun h => by
  have := pick_bd ns k h
  omega⟩
noncomputable def pk (ns : List Int) (k m : Int) : Nat := Classical.choose (ex_pk ns k m)
theorem pk_eq (ns : List Int) (k : Int) {m : Int} (h : 0 < m) : pickF ns k m = (pk ns k m : Int) := Classical.choose_spec (ex_pk ns k m) h
theorem pk_lt (ns : List Int) (k : Int) {m : Int} (h : 0 < m) : (pk ns k m : Int) < m := by
  have := pick_bd ns k h
  rw [pk_eq ns k h] at this
  exact this.2
theorem w_pk {sv : PV} {ns : List Int} (hs : IsScr sv ns) {k m : Int} (hk : 0 ≤ k) (hm : 0 < m) (W : Om) : TT.fn i__law_pick [sv, .int k, .int m] W = .ok (.val (.int (pk ns k m : Nat))) W := by
  rw [w_pick hs hk hm, pk_eq ns k hm]
/-! ### the drawn schema -/
noncomputable def sortF (ns : List Int) (a : Int) (N : List Str) : Srt :=
  if pk ns a 7 < 3 then (if pk ns a 7 = 2 then .text else .num)
  else .link (N.getD (pk ns (a + 3) N.length) "") (decide (0 < pk ns (a + 1) 3)) (if pk ns (a + 2) 3 = 0 then "bar" else if pk ns (a + 2) 3 = 1 then (if 0 < pk ns (a + 1) 3 then "none" else "bar") else "along")
theorem lt3 {q : Nat} (h : q < 3) : q = 0 ∨ q = 1 ∨ q = 2 := by omega
theorem str_ne {x y : Str} (h : decide (x = y) = false) : (x == y) = false := by
  have : ¬ x = y := of_decide_eq_false h
  simpa using this
theorem w_sort {sv : PV} {ns : List Int} (hs : IsScr sv ns) {a : Int} (ha : 0 ≤ a) {N : List Str} (hN : N ≠ []) (W : Om) : TT.fn i__law_sort [sv, .int a, .lst (N.map .str)] W = .ok (.val (eSrt (sortF ns a N))) W := by
  have hl : 0 < N.length := List.length_pos_iff.mpr hN
  have p1 := w_pk hs (m := 7) ha (by decide) W
  have p2 := w_pk hs (k := a + 1) (m := 3) (by omega) (by decide) W
  have p3 := w_pk hs (k := a + 2) (m := 3) (by omega) (by decide) W
  have p4 := w_pk hs (k := a + 3) (m := N.length) (by omega) (by omega) W
  have b3 : pk ns (a + 2) 3 < 3 := by have := pk_lt ns (a + 2) (m := 3) (by decide); omega
  have b4 : pk ns (a + 3) N.length < N.length := by have := pk_lt ns (a + 3) (m := N.length) (by omega); omega
  unfold sortF
  generalize pk ns a 7 = q1 at *
  generalize pk ns (a + 1) 3 = q2 at *
  generalize pk ns (a + 2) 3 = q3 at *
  generalize pk ns (a + 3) N.length = q4 at *
  have hx : N[q4]? = some (N.getD q4 "") := by rw [List.getD_eq_getElem?_getD, List.getElem?_eq_getElem b4]; rfl
  generalize N.getD q4 "" = x at *
  have e4 := atI_get PV.str hx
  have n1 : (("bar" : Str) == ("none" : Str)) = false := str_ne (by decide +kernel)
  have n2 : (("along" : Str) == ("none" : Str)) = false := str_ne (by decide +kernel)
  rw [f__law_sort, run_eq rfl]
  by_cases h1 : q1 < 3
  · rcases lt3 h1 with rfl | rfl | rfl <;> simp [d__law_sort, exs_cons, p1, eSrt, sz_big]
  · have h1' : ¬ (q1 : Int) < 3 := by omega
    by_cases h2 : 0 < q2
    · have h2' : (0 : Int) < q2 := by omega
      rcases lt3 b3 with rfl | rfl | rfl <;> simp [d__law_sort, exs_cons, p1, p2, p3, p4, h1, h1', h2, h2', e4, eSrt, sz_big, n1, n2]
    · have h2' : ¬ (0 : Int) < q2 := by omega
      rcases lt3 b3 with rfl | rfl | rfl <;> simp [d__law_sort, exs_cons, p1, p2, p3, p4, h1, h1', h2, h2', e4, eSrt, sz_big, n1, n2]
def namesL (a b : Nat) : List Str := ((([("oak" : Str), "a", "zzzzzz", "elm"]).drop a).take (1 + b))
def rpsq : List Nat := ("rpsq" : Str).cps.toList
def rch (k : Nat) : Nat := rpsq.getD k 0
def fname (k j : Nat) : Str := ⟨((List.replicate (1 + j) [rch k]).flatten).toArray⟩
noncomputable def kindF (ns : List Int) (at' : Int) (N : List Str) (p : Str × Nat) : Knd :=
  (p.1, (List.range (1 + pk ns (at' + 2 + 20 * p.2) 4)).map fun k => (fname k p.2, sortF ns (at' + 3 + 20 * p.2 + 4 * k) N))
noncomputable def namesF (ns : List Int) (at' : Int) : List Str := namesL (pk ns at' 2) (pk ns (at' + 1) 3)
noncomputable def schemaF (ns : List Int) (at' : Int) : Sch := (namesF ns at').zipIdx.map (kindF ns at' (namesF ns at'))
theorem lt2 {q : Nat} (h : q < 2) : q = 0 ∨ q = 1 := by omega
theorem lt4 {q : Nat} (h : q < 4) : q = 0 ∨ q = 1 ∨ q = 2 ∨ q = 3 := by omega
theorem names_cut {a b : Nat} (ha : a < 2) (hb : b < 3) : cutP (cutP [PV.str "oak", .str "a", .str "zzzzzz", .str "elm"] (some (a : Int)) none) none (some (1 + (b : Int))) = (namesL a b).map .str := by
  rcases lt2 ha with rfl | rfl <;> rcases lt3 hb with rfl | rfl | rfl <;> rfl
theorem names_len {a b : Nat} (ha : a < 2) (hb : b < 3) : (namesL a b).length = 1 + b ∧ (namesL a b).Nodup ∧ namesL a b ≠ [] := by
  rcases lt2 ha with rfl | rfl <;> rcases lt3 hb with rfl | rfl | rfl <;> decide +kernel
theorem fname_ok {k j : Nat} (hk : k < 4) (hj : j < 3) : idxV (.str "rpsq") (.int k) = some (.str ⟨#[rch k]⟩) ∧ binOp .mul (.str ⟨#[rch k]⟩) (.int (1 + (j : Int))) = some (.val (.str (fname k j))) := by
  rcases lt4 hk with rfl | rfl | rfl | rfl <;> rcases lt3 hj with rfl | rfl | rfl <;> exact ⟨rfl, rfl⟩
theorem flatMap_one {α β : Type} (f : α → β) : ∀ l : List α, (l.flatMap fun x => [f x]) = l.map f
  | [] => rfl
  | x :: l => by simp [flatMap_one f l]
theorem w_schema {sv : PV} {ns : List Int} (hs : IsScr sv ns) {at' : Int} (ha : 0 ≤ at') (W : Om) : TT.fn i__law_schema [sv, .int at'] W = .ok (.val (eSch (schemaF ns at'))) W := by
  have p1 := w_pk hs (m := 2) ha (by decide) W
  have p2 := w_pk hs (k := at' + 1) (m := 3) (by omega) (by decide) W
  have b1 : pk ns at' 2 < 2 := by have := pk_lt ns at' (m := 2) (by decide); omega
  have b2 : pk ns (at' + 1) 3 < 3 := by have := pk_lt ns (at' + 1) (m := 3) (by decide); omega
  obtain ⟨l1, l2, l3⟩ := names_len b1 b2
  have hc := names_cut b1 b2
  have hN : namesF ns at' = namesL (pk ns at' 2) (pk ns (at' + 1) 3) := rfl
  rw [← hN] at l1 l2 l3 hc
  unfold schemaF
  generalize namesF ns at' = N at *
  generalize pk ns at' 2 = q1 at *
  generalize pk ns (at' + 1) 3 = q2 at *
  rw [f__law_schema, run_eq rfl]
  simp [d__law_schema, exs_cons, p1, p2, sz_big, hc]
  rw [for_app 3 4 N.zipIdx (eNm .str) (fun p => [eKnd (kindF ns at' N p)]) [] rfl (by simp) (by simp [flatMap_one]; omega) ?hx]
  · simp [flatMap_one, eSch]
  case hx =>
    rintro acc ⟨x, j⟩ hm hl
    have hj : j < N.length := (List.mem_zipIdx' hm).1
    have pm := w_pk hs (k := at' + 2 + 20 * (j : Int)) (m := 4) (by omega) (by decide) W
    have bm : pk ns (at' + 2 + 20 * (j : Int)) 4 < 4 := by have := pk_lt ns (at' + 2 + 20 * (j : Int)) (m := 4) (by decide); omega
    have hcomp : ∀ k ∈ List.range (1 + pk ns (at' + 2 + 20 * (j : Int)) 4), k < 4 := fun k hk => by
      have := List.mem_range.mp hk
      omega
    simp [exs_cons, b_mul (a := 20) (.inl (by decide)), pm, eNm]
    rw [comp_m (List.range (1 + pk ns (at' + 2 + 20 * (j : Int)) 4)) eNat (fun k => eFld (fname k j, sortF ns (at' + 3 + 20 * (j : Int) + 4 * (k : Int)) N)) (by simp; rw [itV_rng (m := 1 + pk ns (at' + 2 + 20 * (j : Int)) 4) (by omega) (by omega)]; rfl) (by simp; exact sz_big (by omega)) ?hy]
    · simp [xApp_app, sz_big, kindF, eKnd, eFlds, Function.comp_def]
      have := sz_lt (n := acc.length) (by simp at hl; omega)
      simp [this]
    case hy =>
      intro k hk
      obtain ⟨f1, f2⟩ := fname_ok (k := k) (j := j) (hcomp k hk) (by omega)
      have ps := w_sort hs (a := at' + 3 + 20 * (j : Int) + 4 * (k : Int)) (by omega) l3 W
      simp [eNat, f1, f2, b_mul (a := 20) (.inl (by decide)), b_mul (a := 4) (.inl (by decide)), ps, sz_big, eFld]
/-! ### how many rows -/
theorem namesF_ok (ns : List Int) (a : Int) : 1 ≤ (namesF ns a).length ∧ (namesF ns a).length ≤ 3 ∧ (namesF ns a).Nodup ∧ namesF ns a ≠ [] := by
  have b1 : pk ns a 2 < 2 := by have := pk_lt ns a (m := 2) (by decide); omega
  have b2 : pk ns (a + 1) 3 < 3 := by have := pk_lt ns (a + 1) (m := 3) (by decide); omega
  obtain ⟨h1, h2, h3⟩ := names_len b1 b2
  refine ⟨?_, ?_, h2, h3⟩ <;> unfold namesF <;> omega
theorem names_schemaF (ns : List Int) (a : Int) : names (schemaF ns a) = namesF ns a := by
  unfold names schemaF
  rw [List.map_map]
  have : ((fun x : Knd => x.1) ∘ kindF ns a (namesF ns a)) = Prod.fst := by
    funext p
    rfl
  rw [this, List.zipIdx_map_fst]
theorem sortF_link {ns : List Int} {a : Int} {N : List Str} (hN : N ≠ []) {x r : Str} {m : Bool} (h : sortF ns a N = .link x m r) : x ∈ N := by
  have hl : 0 < N.length := List.length_pos_iff.mpr hN
  have b4 : pk ns (a + 3) N.length < N.length := by have := pk_lt ns (a + 3) (m := N.length) (by omega); omega
  unfold sortF at h
  split at h
  · split at h <;> cases h
  · cases h
    rw [List.getD_eq_getElem?_getD, List.getElem?_eq_getElem b4]
    exact List.getElem_mem b4
theorem schemaF_ok (ns : List Int) (a : Int) : SchOk (schemaF ns a) := by
  obtain ⟨h1, h2, h3, h4⟩ := namesF_ok ns a
  have hl : (schemaF ns a).length = (namesF ns a).length := by unfold schemaF; simp
  have hk : ∀ k ∈ schemaF ns a, ∃ p, k = kindF ns a (namesF ns a) p := fun k hk => by
    unfold schemaF at hk
    obtain ⟨p, _, e⟩ := List.mem_map.mp hk
    exact ⟨p, e.symm⟩
  refine ⟨by rw [names_schemaF]; exact h3, by omega, by omega, fun k hm => ?_, fun k hm f hf x m r e => ?_⟩
  · obtain ⟨p, rfl⟩ := hk k hm
    have b : pk ns (a + 2 + 20 * (p.2 : Int)) 4 < 4 := by have := pk_lt ns (a + 2 + 20 * (p.2 : Int)) (m := 4) (by decide); omega
    simp only [kindF, List.length_map, List.length_range]
    omega
  · obtain ⟨p, rfl⟩ := hk k hm
    rw [names_schemaF]
    unfold kindF at hf
    obtain ⟨q, _, rfl⟩ := List.mem_map.mp hf
    exact sortF_link h4 e
def zeroF (l : List (Str × Nat)) (k : Str) : Srt → List (Str × Nat)
  | .link x false _ => if getA l x = some 0 then putA l k 0 else l
  | _ => l
def passF (S : Sch) (l : List (Str × Nat)) : List (Str × Nat) := S.foldl (fun l k => k.2.foldl (fun l f => zeroF l k.1 f.2) l) l
theorem zeroF_keys {l : List (Str × Nat)} {k : Str} (h : k ∈ l.map (·.1)) (s : Srt) : (zeroF l k s).map (·.1) = l.map (·.1) := by
  unfold zeroF
  split
  · split
    · exact putA_keys h
    · rfl
  · rfl
theorem zeros_keys {k : Str} : ∀ (fs : List Fld) {l : List (Str × Nat)}, k ∈ l.map (·.1) → (fs.foldl (fun l f => zeroF l k f.2) l).map (·.1) = l.map (·.1)
  | [], _, _ => rfl
  | f :: fs, l, h => by
    rw [List.foldl_cons, zeros_keys fs (by rw [zeroF_keys h]; exact h), zeroF_keys h]
theorem passF_keys : ∀ (S : Sch) {l : List (Str × Nat)}, (∀ k ∈ S, k.1 ∈ l.map (·.1)) → (passF S l).map (·.1) = l.map (·.1)
  | [], _, _ => rfl
  | k :: S, l, h => by
    have h1 := zeros_keys (k := k.1) k.2 (l := l) (h k (by simp))
    show (passF S (k.2.foldl (fun l f => zeroF l k.1 f.2) l)).map (·.1) = _
    rw [passF_keys S (by intro q hq; rw [h1]; exact h q (by simp [hq])), h1]
theorem putA_len {α : Type} (l : List (Str × α)) (k : Str) (v : α) : (putA l k v).length ≤ l.length + 1 := by
  unfold putA
  split <;> simp
theorem putA_all {α : Type} {P : α → Prop} {l : List (Str × α)} {k : Str} {v : α} (h : ∀ p ∈ l, P p.2) (hv : P v) : ∀ p ∈ putA l k v, P p.2 := by
  intro p hp
  unfold putA at hp
  split at hp
  · obtain ⟨q, hq, rfl⟩ := List.mem_map.mp hp
    split
    · exact hv
    · exact h q hq
  · rcases List.mem_append.mp hp with hp | hp
    · exact h p hp
    · simp at hp
      rw [hp]
      exact hv
/-- how many are not nothing -/
def Zn (l : List (Str × Nat)) : Nat := l.countP fun p => decide (p.2 ≠ 0)
def Cl1 (l : List (Str × Nat)) (k : Str) (s : Srt) : Prop := ∀ x r, s = .link x false r → getA l x = some 0 → getA l k = some 0
def Cld (S : Sch) (l : List (Str × Nat)) : Prop := ∀ k ∈ S, ∀ f ∈ k.2, Cl1 l k.1 f.2
theorem map0_Z (k : Str) : ∀ l : List (Str × Nat), Zn (l.map fun p => if p.1 = k then (p.1, 0) else p) ≤ Zn l ∧ (Zn (l.map fun p => if p.1 = k then (p.1, 0) else p) = Zn l → (l.map fun p => if p.1 = k then (p.1, 0) else p) = l)
  | [] => ⟨Nat.le_refl _, fun _ => rfl⟩
  | p :: l => by
    obtain ⟨h1, h2⟩ := map0_Z k l
    obtain ⟨x, n⟩ := p
    unfold Zn at h1 h2 ⊢
    simp only [List.map_cons, List.countP_cons]
    by_cases e : x = k
    · by_cases e2 : n = 0
      · subst e2
        simp only [e, if_true]
        refine ⟨by simpa using h1, fun h => ?_⟩
        rw [h2 (by simpa using h)]
      · simp only [e, if_true]
        have d1 : decide ((0 : Nat) ≠ 0) = false := rfl
        have d2 : decide (n ≠ 0) = true := by simpa using e2
        simp only [d1, d2, if_true, Bool.false_eq_true, if_false, Nat.add_zero]
        exact ⟨by omega, fun h => by omega⟩
    · simp only [if_neg e]
      refine ⟨by omega, fun h => ?_⟩
      rw [h2 (by omega)]
theorem put0_Z {l : List (Str × Nat)} {k : Str} (h : k ∈ l.map (·.1)) : Zn (putA l k 0) ≤ Zn l ∧ (Zn (putA l k 0) = Zn l → putA l k 0 = l) := by
  have e : putA l k 0 = l.map fun p => if p.1 = k then (p.1, 0) else p := by
    unfold putA
    rw [if_pos]
    obtain ⟨p, hp, e⟩ := List.mem_map.mp h
    exact List.any_eq_true.mpr ⟨p, hp, by simpa using e⟩
  rw [e]
  exact map0_Z k l
theorem zeroF_Z {l : List (Str × Nat)} {k : Str} (h : k ∈ l.map (·.1)) (s : Srt) : Zn (zeroF l k s) ≤ Zn l ∧ (Zn (zeroF l k s) = Zn l → zeroF l k s = l) := by
  unfold zeroF
  split
  · split
    · exact put0_Z h
    · exact ⟨Nat.le_refl _, fun _ => rfl⟩
  · exact ⟨Nat.le_refl _, fun _ => rfl⟩
theorem zeroF_cl {l : List (Str × Nat)} {k : Str} {s : Srt} (h : zeroF l k s = l) : Cl1 l k s := by
  rintro x r rfl h0
  simp only [zeroF, h0, if_true] at h
  rw [← h, getA_put, if_pos rfl]
theorem zeros_Z {k : Str} : ∀ (fs : List Fld) {l : List (Str × Nat)}, k ∈ l.map (·.1) → Zn (fs.foldl (fun l f => zeroF l k f.2) l) ≤ Zn l ∧ (Zn (fs.foldl (fun l f => zeroF l k f.2) l) = Zn l → fs.foldl (fun l f => zeroF l k f.2) l = l ∧ ∀ f ∈ fs, Cl1 l k f.2)
  | [], l, _ => ⟨Nat.le_refl _, fun _ => ⟨rfl, by simp⟩⟩
  | f :: fs, l, h => by
    obtain ⟨a1, a2⟩ := zeroF_Z h f.2
    obtain ⟨b1, b2⟩ := zeros_Z (k := k) fs (l := zeroF l k f.2) (by rw [zeroF_keys h]; exact h)
    rw [List.foldl_cons]
    refine ⟨Nat.le_trans b1 a1, fun e => ?_⟩
    have e1 : Zn (zeroF l k f.2) = Zn l := by omega
    obtain ⟨c1, c2⟩ := b2 (by omega)
    have q := a2 e1
    rw [q] at c1 c2 ⊢
    refine ⟨c1, fun g hg => ?_⟩
    rcases List.mem_cons.mp hg with rfl | hg
    · exact zeroF_cl q
    · exact c2 g hg
theorem passF_Z : ∀ (S : Sch) {l : List (Str × Nat)}, (∀ k ∈ S, k.1 ∈ l.map (·.1)) → Zn (passF S l) ≤ Zn l ∧ (Zn (passF S l) = Zn l → passF S l = l ∧ Cld S l)
  | [], l, _ => ⟨Nat.le_refl _, fun _ => ⟨rfl, by intro k hk; simp at hk⟩⟩
  | k :: S, l, h => by
    have hk := h k (by simp)
    obtain ⟨a1, a2⟩ := zeros_Z k.2 hk
    have h1 := zeros_keys (k := k.1) k.2 (l := l) hk
    obtain ⟨b1, b2⟩ := passF_Z S (l := k.2.foldl (fun l f => zeroF l k.1 f.2) l) (by intro q hq; rw [h1]; exact h q (by simp [hq]))
    show Zn (passF S (k.2.foldl (fun l f => zeroF l k.1 f.2) l)) ≤ _ ∧ (Zn (passF S (k.2.foldl (fun l f => zeroF l k.1 f.2) l)) = _ → passF S (k.2.foldl (fun l f => zeroF l k.1 f.2) l) = _ ∧ _)
    refine ⟨Nat.le_trans b1 a1, fun e => ?_⟩
    obtain ⟨c1, c2⟩ := a2 (by omega)
    obtain ⟨d1, d2⟩ := b2 (by omega)
    rw [c1] at d1 d2 ⊢
    refine ⟨d1, fun q hq => ?_⟩
    rcases List.mem_cons.mp hq with rfl | hq
    · exact c2
    · exact d2 q hq
theorem zeroF_all {P : Nat → Prop} {l : List (Str × Nat)} (h0 : P 0) (h : ∀ p ∈ l, P p.2) (k : Str) (s : Srt) : ∀ p ∈ zeroF l k s, P p.2 := by
  unfold zeroF
  split
  · split
    · exact putA_all h h0
    · exact h
  · exact h
theorem zeros_all {P : Nat → Prop} (h0 : P 0) (k : Str) : ∀ (fs : List Fld) {l : List (Str × Nat)}, (∀ p ∈ l, P p.2) → ∀ p ∈ fs.foldl (fun l f => zeroF l k f.2) l, P p.2
  | [], _, h => h
  | f :: fs, l, h => zeros_all h0 k fs (zeroF_all h0 h k f.2)
theorem passF_all {P : Nat → Prop} (h0 : P 0) : ∀ (S : Sch) {l : List (Str × Nat)}, (∀ p ∈ l, P p.2) → ∀ p ∈ passF S l, P p.2
  | [], _, h => h
  | k :: S, l, h => passF_all h0 S (zeros_all h0 k.1 k.2 h)
theorem Zn_zero {l : List (Str × Nat)} (h : Zn l = 0) {k : Str} (hk : k ∈ l.map (·.1)) : getA l k = some 0 := by
  obtain ⟨v, hv⟩ := getA_mem hk
  have := List.countP_eq_zero.mp h _ (getA_keys hv)
  simp at this
  rw [hv, this]
theorem cmp_link (x : Str) (h : x ≠ "link") : cmpOp .eq (.str x) (.str "link") = some false := by simp [h]
theorem ix_str0 (c : Char) : True := trivial
/-- a sort's first word -/
theorem srt_ix0 (s : Srt) : (∃ k m r, s = .link k m r) ∨ ∃ x : Str, eSrt s = .str x ∧ ∃ y : Str, idxV (.str x) (.int 0) = some (.str y) ∧ (y == ("link" : Str)) = false := by
  cases s with
  | num => exact .inr ⟨"number", rfl, "n", rfl, str_ne (by decide +kernel)⟩
  | text => exact .inr ⟨"text", rfl, "t", rfl, str_ne (by decide +kernel)⟩
  | link k m r => exact .inl ⟨k, m, r, rfl⟩
theorem w_counts {sv : PV} {ns : List Int} (hs : IsScr sv ns) {a : Int} (ha : 0 ≤ a) {S : Sch} (ok : SchOk S) (most : Nat) (W : Om) : ∃ c : List (Str × Nat), TT.fn i__law_counts [sv, .int a, eSch S, .int most] W = .ok (.fre (cDct eNat c)) W ∧ c.map (·.1) = names S ∧ Cld S c ∧ ∀ p ∈ c, p.2 ≤ most := by
  rw [f__law_counts, run_eq rfl]
  have l4 := ok.l4
  let mk : List (Str × Nat) → Ev := fun s => [.val sv, .val (.int a), .val (eSch S), .val (.int most), .own (cDct eNat s), .un, .un, .un, .un, .un, .un, .un]
  obtain ⟨c1, h1, hk1, hm1⟩ := for_inv (fun l (s : List (Str × Nat)) => s.map (·.1) ++ l.map (·.1.1) = names S ∧ ∀ p ∈ s, p.2 ≤ most) S.zipIdx (eNm eKnd) mk [] (T := TT) (tg := .tp [.nm 6, .nm 7]) (k := .enum) (es := [.var 2]) (body := [(.put 4 (.idx (.var 7) (.int 0)) (.call i__law_pick [(.var 0), (.op .add (.var 1) (.var 6)), (.op .add (.var 3) (.int 1))]))]) (kil := [6, 7]) (env := mk []) (W := W) (by simp [mk]) rfl (by
      refine ⟨?_, by simp⟩
      have : (S.zipIdx.map (·.1.1)) = (S.zipIdx.map (·.1)).map (·.1) := by rw [List.map_map]; rfl
      rw [this, List.zipIdx_map_fst]
      rfl) (by
    rintro s ⟨k, j⟩ l ⟨hI, hm⟩
    have pj := w_pk hs (k := a + (j : Int)) (m := (most : Int) + 1) (by omega) (by omega) W
    have pb := pk_lt ns (a + (j : Int)) (m := (most : Int) + 1) (by omega)
    have hn : k.1 ∉ s.map (·.1) := fun h => by
      have nd := ok.nd
      rw [← hI] at nd
      exact (List.nodup_append.mp nd).2.2 _ h _ (by simp) rfl
    have hlen : s.length < 4 := by
      have := congrArg List.length hI
      simp [names] at this
      omega
    have hp := put_A eNat (l := s) k.1 (pk ns (a + (j : Int)) ((most : Int) + 1)) (sz_lt (by omega))
    have hp' : putC (cDct eNat s) (.str k.1) (.int (pk ns (a + (j : Int)) ((most : Int) + 1) : Nat)) = _ := hp
    refine ⟨putA s k.1 (pk ns (a + (j : Int)) ((most : Int) + 1)), by simp [mk, ex_put, xPut_app, pj, hp'], ?_, putA_all (P := fun n => n ≤ most) hm (by omega)⟩
    rw [putA_new hn, List.map_append, List.append_assoc]
    exact hI)
  simp at hk1
  have pass : ∀ c : List (Str × Nat), c.map (·.1) = names S → ∀ i : PV, ex TT (.fr (.tp [(.nm 8), (.nm 9)]) .one [(.var 2)] [(.fr (.tp [(.nm 10), (.nm 11)]) .one [(.var 9)] [(.ife (.and [(.cmp .eq (.idx (.var 11) (.int 0)) (.str "link")), (.not (.idx (.var 11) (.int 2))), (.cmp .eq (.idx (.var 4) (.idx (.var 11) (.int 1))) (.int 0))]) [(.put 4 (.var 8) (.int 0))] [])] [10, 11])] [8, 9, 10, 11])
      [.val sv, .val (.int a), .val (eSch S), .val (.int most), .own (cDct eNat c), .val i, .un, .un, .un, .un, .un, .un] W = .ok .nx [.val sv, .val (.int a), .val (eSch S), .val (.int most), .own (cDct eNat (passF S c)), .val i, .un, .un, .un, .un, .un, .un] W := fun c hc i => by
    rw [for_foldI (fun l (s : List (Str × Nat)) => s.map (·.1) = names S ∧ ∀ k ∈ l, k ∈ S) S eKnd (fun s => [.val sv, .val (.int a), .val (eSch S), .val (.int most), .own (cDct eNat s), .val i, .un, .un, .un, .un, .un, .un]) (fun l k => k.2.foldl (fun l f => zeroF l k.1 f.2) l) c (by simp) rfl ⟨hc, fun _ h => h⟩ ?hk]
    · rfl
    case hk =>
      rintro s k l ⟨hI, hm⟩
      have hkS := hm k (by simp)
      have hk : k.1 ∈ s.map (·.1) := by rw [hI]; exact mem_names hkS
      refine ⟨?_, by rw [zeros_keys k.2 hk]; exact hI, fun q hq => hm q (by simp [hq])⟩
      have inner := for_foldI (fun l (s : List (Str × Nat)) => s.map (·.1) = names S ∧ ∀ f ∈ l, f ∈ k.2) k.2 eFld (fun s => [.val sv, .val (.int a), .val (eSch S), .val (.int most), .own (cDct eNat s), .val i, .un, .un, .val (.str k.1), .val (eFlds k.2), .un, .un]) (fun l f => zeroF l k.1 f.2) s (T := TT) (tg := .tp [(.nm 10), (.nm 11)]) (k := .one) (es := [(.var 9)]) (body := [(.ife (.and [(.cmp .eq (.idx (.var 11) (.int 0)) (.str "link")), (.not (.idx (.var 11) (.int 2))), (.cmp .eq (.idx (.var 4) (.idx (.var 11) (.int 1))) (.int 0))]) [(.put 4 (.var 8) (.int 0))] [])]) (kil := [10, 11]) (env := [.val sv, .val (.int a), .val (eSch S), .val (.int most), .own (cDct eNat s), .val i, .un, .un, .val (.str k.1), .val (eFlds k.2), .un, .un]) (W := W) (by simp) rfl ⟨hI, fun _ h => h⟩ (by
        rintro s f l ⟨hI, hm⟩
        have hf := hm f (by simp)
        have hk : k.1 ∈ s.map (·.1) := by rw [hI]; exact mem_names hkS
        refine ⟨?_, by rw [zeroF_keys hk]; exact hI, fun q hq => hm q (by simp [hq])⟩
        rcases srt_ix0 f.2 with ⟨x, m, r, e⟩ | ⟨x, e1, y, e2, e3⟩
        · cases m with
          | true => simp [e, eSrt, zeroF]
          | false =>
            have hx : x ∈ s.map (·.1) := by rw [hI]; exact ok.lk k hkS f hf x false r e
            obtain ⟨v, hv⟩ := getA_mem hx
            have hv2 : idxV (eDct eNat s) (.str x) = some (.int v) := idx_A hv
            by_cases h0 : v = 0
            · subst h0
              have hlen : s.length ≤ 4 := by
                have := congrArg List.length hI
                simp [names] at this
                omega
              have hp := put_A eNat (l := s) k.1 0 (sz_lt (by omega))
              have hp' : putC (cDct eNat s) (.str k.1) (.int 0) = _ := hp
              have hv2' : idxV (eDct eNat s) (.str x) = some (.int 0) := hv2
              simp [e, eSrt, zeroF, hv, hv2', ex_put, xPut_app, hp']
            · have h0' : ((v : Int) == 0) = false := by simpa using h0
              simp [e, eSrt, zeroF, hv, hv2, h0, h0']
        · have ez : zeroF s k.1 f.2 = s := by
            cases q : f.2 <;> rw [q] at e1 <;> first | rfl | cases e1
          simp [e1, e2, e3, ez])
      simp
      rw [inner]
      simp
  obtain ⟨c2, h2, hk2, hm2, hz⟩ := for_inv (fun l (s : List (Str × Nat)) => s.map (·.1) = names S ∧ (∀ p ∈ s, p.2 ≤ most) ∧ (passF S s = s ∨ Zn s ≤ l.length)) (List.range S.length) eNat mk c1 (T := TT) (tg := .nm 5) (k := .rng) (es := [(.blt .len [(.var 2)])]) (body := [(.fr (.tp [(.nm 8), (.nm 9)]) .one [(.var 2)] [(.fr (.tp [(.nm 10), (.nm 11)]) .one [(.var 9)] [(.ife (.and [(.cmp .eq (.idx (.var 11) (.int 0)) (.str "link")), (.not (.idx (.var 11) (.int 2))), (.cmp .eq (.idx (.var 4) (.idx (.var 11) (.int 1))) (.int 0))]) [(.put 4 (.var 8) (.int 0))] [])] [10, 11])] [8, 9, 10, 11])]) (kil := [5, 8, 9, 10, 11]) (env := mk c1) (W := W) (by simp [mk]; rw [itV_rng rfl (by omega)]; rfl) rfl (by
      refine ⟨hk1, hm1, .inr ?_⟩
      have := congrArg List.length hk1
      simp [names] at this
      rw [List.length_range, ← this]
      exact List.countP_le_length) (by
    rintro s i l ⟨hI, hm, hz⟩
    have hkk : ∀ k ∈ S, k.1 ∈ s.map (·.1) := fun k hk => by rw [hI]; exact mem_names hk
    refine ⟨passF S s, ?_, by rw [passF_keys S hkk]; exact hI, passF_all (P := fun n => n ≤ most) (Nat.zero_le _) S hm, ?_⟩
    · simp [mk, eNat]
      rw [pass s hI]
      simp
    · rcases hz with hz | hz
      · exact .inl (by rw [hz, hz])
      · obtain ⟨b1, b2⟩ := passF_Z S hkk
        by_cases e : Zn (passF S s) = Zn s
        · left
          rw [(b2 e).1, (b2 e).1]
        · right
          simp at hz
          omega)
  refine ⟨c2, ?_, hk2, ?_, hm2⟩
  · simp [d__law_counts]
    rw [exs_nx (env' := mk []) (W' := W) (by simp; rfl), exs_nx h1, exs_nx h2]
    simp [mk, xRetO]
  · have hkk : ∀ k ∈ S, k.1 ∈ c2.map (·.1) := fun k hk => by rw [hk2]; exact mem_names hk
    rcases hz with hz | hz
    · exact ((passF_Z S hkk).2 (by rw [hz])).2
    · intro k hk f hf x r e _
      exact Zn_zero (by simpa using hz) (hkk k hk)
/-! ### values drawn -/
@[simp] theorem b_pow6 : binOp .pow (.int 10) (.int 6) = some (.val (.int 1000000)) := (rfl)
theorem asStrs_map : ∀ ys : List Str, asStrs (ys.map .str) = some ys
  | [] => rfl
  | y :: ys => by simp only [List.map_cons, asStrs, asStrs_map ys]
theorem idx_chr {z : Str} {i n : Nat} (hz : z.cps.toList.length = n) (h : i < n) : ∃ c : Str, idxV (.str z) (.int i) = some (.str c) ∧ c.length = 1 ∧ ∀ d ∈ c.cps.toList, d ∈ z.cps.toList := by
  subst hz
  refine ⟨⟨#[z.cps.toList[i]]⟩, ?_, rfl, fun d hd => by
    have : d = z.cps.toList[i] := by simpa using hd
    rw [this]
    exact List.getElem_mem h⟩
  show (match atI z.cps.toList (i : Int) with | some c => some (PV.str ⟨#[c]⟩) | none => none) = _
  rw [D.atI_nat, List.getElem?_eq_getElem h]
theorem idx_ints {l : List Int} {i n : Nat} (hz : l.length = n) (h : i < n) : ∃ c : Int, idxV (.lst (l.map .int)) (.int i) = some (.int c) ∧ c ∈ l := by
  subst hz
  refine ⟨l[i], ?_, List.getElem_mem h⟩
  rw [idx_l, atI_map, List.getElem?_eq_getElem h]
  rfl
theorem sum_ones : ∀ {l : List Nat}, (∀ x ∈ l, x = 1) → l.sum = l.length
  | [], _ => rfl
  | x :: l, h => by
    have := h x (by simp)
    have := sum_ones (l := l) fun y hy => h y (by simp [hy])
    simp only [List.sum_cons, List.length_cons]
    omega
theorem signs_ok : ∀ d ∈ (" !'#&,:;0123456789ABCXYZabcxyz~" : Str).cps.toList, 32 ≤ d ∧ d ≤ 126 := by decide +kernel
theorem join_len : ∀ {ys : List Str}, (∀ y ∈ ys, y.length = 1 ∧ ∀ d ∈ y.cps.toList, 32 ≤ d ∧ d ≤ 126) → (PySem.Str.join "" ys).length = ys.length ∧ ∀ d ∈ (PySem.Str.join "" ys).cps.toList, 32 ≤ d ∧ d ≤ 126
  | [], _ => ⟨rfl, by intro d hd; simp [PySem.Str.join, PySem.Str.empty] at hd⟩
  | [x], h => by
    have := h x (by simp)
    exact ⟨this.1, this.2⟩
  | x :: y :: ys, h => by
    obtain ⟨h1, h2⟩ := join_len (ys := y :: ys) fun z hz => h z (by simp [hz])
    obtain ⟨x1, x2⟩ := h x (by simp)
    have e : PySem.Str.join "" (x :: y :: ys) = x ++ "" ++ PySem.Str.join "" (y :: ys) := rfl
    have ec : (PySem.Str.join "" (x :: y :: ys)).cps.toList = x.cps.toList ++ (PySem.Str.join "" (y :: ys)).cps.toList := by
      rw [e]
      show ((x.cps ++ ("" : Str).cps) ++ (PySem.Str.join "" (y :: ys)).cps).toList = _
      have : ("" : Str).cps = #[] := rfl
      rw [this]
      simp
    have el : ∀ z : Str, z.length = z.cps.toList.length := fun z => by rw [Array.length_toList]; rfl
    refine ⟨?_, fun d hd => ?_⟩
    · rw [el, ec, List.length_append, ← el, ← el, h1, x1]
      simp
      omega
    · rw [ec] at hd
      rcases List.mem_append.mp hd with hd | hd
      · exact x2 d hd
      · exact h2 d hd
theorem join_ok {ys : List Str} (h : ∀ y ∈ ys, y.length = 1 ∧ ∀ d ∈ y.cps.toList, 32 ≤ d ∧ d ≤ 126) (hl : ys.length ≤ 8) : txtOk (PySem.Str.join "" ys) = true := by
  obtain ⟨h1, h2⟩ := join_len h
  unfold txtOk
  rw [h1]
  simp only [Bool.and_eq_true, decide_eq_true_eq, List.all_eq_true]
  exact ⟨hl, fun d hd => h2 d hd⟩
theorem w_plain {sv : PV} {ns : List Int} (hs : IsScr sv ns) {a : Int} (ha : 0 ≤ a) {s : Srt} (hp : s = .num ∨ s = .text) (kd : List (Str × List Int)) (W : Om) : ∃ v : Vl, TT.fn i__law_plain [sv, .int a, eSrt s] W = .ok (.val (eVl v)) W ∧ VOk kd s v := by
  have p1 := w_pk hs (m := 1000000) ha (by decide) W
  rw [f__law_plain, run_eq rfl]
  generalize pk ns a 1000000 = q at p1
  rcases hp with rfl | rfl
  · obtain ⟨c, hc, hcm⟩ := idx_ints (l := [0, 1, -1, 9999, -9999, (q : Int) % 19999 - 9999, (q : Int) % 20 - 9]) (i := q / 20000 % 7) (n := 7) rfl (by omega)
    have hc' : idxV (.lst [.int 0, .int 1, .int (-1), .int 9999, .int (-9999), .int ((q : Int) % 19999 - 9999), .int ((q : Int) % 20 - 9)]) (.int ((q : Int) / 20000 % 7)) = some (.int c) := hc
    refine ⟨.int c, ?_, by
      simp only [List.mem_cons, List.not_mem_nil, or_false] at hcm
      show -9999 ≤ c ∧ c ≤ 9999
      omega⟩
    simp only [idx_l] at hc'
    simp [d__law_plain, exs_cons, p1, eSrt, b_mod, b_fdiv, sz_big, hc', eVl]
  · obtain ⟨n, hn, hnm⟩ := idx_ints (l := [0, 1, 2, 3, 8]) (i := q % 5) (n := 5) rfl (by omega)
    have hn' : idxV (.lst [.int 0, .int 1, .int 2, .int 3, .int 8]) (.int ((q : Int) % 5)) = some (.int n) := hn
    simp only [idx_l] at hn'
    have hn0 : 0 ≤ n ∧ n ≤ 8 := by
      simp at hnm
      omega
    have nt : (("text" : Str) == ("number" : Str)) = false := str_ne (by decide +kernel)
    simp [d__law_plain, exs_cons, p1, eSrt, nt]
    obtain ⟨ys, h1, h2⟩ := comp_ex (β := Str) (List.range n.toNat) eNat .str (fun _ y => y.length = 1 ∧ ∀ d ∈ y.cps.toList, 32 ≤ d ∧ d ≤ 126) (T := TT) (e := (.idx (.var 4) (.call i__law_pick [(.var 0), (.op .add (.var 1) (.var 5)), (.int 31)]))) (tg := .nm 5) (k := .rng) (es := [(.idx (.lst [(.int 0), (.int 1), (.int 2), (.int 3), (.int 8)]) (.op .mod (.var 3) (.int 5)))]) (c := []) (own := [("_law_k", 5)])
      (env := [.val sv, .val (.int a), .val (.str "text"), .val (.int q), .val (.str " !'#&,:;0123456789ABCXYZabcxyz~"), .un]) (W := W) (by simp [sz_big, b_mod, hn']; rw [itV_rng (n := n) (m := n.toNat) (by omega) (by omega)]; rfl) (by rw [List.length_range]; exact sz_big (by omega)) (by
      intro k hk
      have pj := w_pk hs (k := a + (k : Int)) (m := 31) (by omega) (by decide) W
      have pb := pk_lt ns (a + (k : Int)) (m := 31) (by decide)
      obtain ⟨c, hc, hl, hm⟩ := idx_chr (z := " !'#&,:;0123456789ABCXYZabcxyz~") (i := pk ns (a + (k : Int)) 31) (n := 31) (by decide +kernel) (by omega)
      exact ⟨c, by simp [eNat, pj, hc], hl, fun d hd => signs_ok d (hm d hd)⟩)
    rw [h1]
    have hl : ys.length ≤ 8 := by
      have := h2.len
      simp at this
      omega
    have hsum : (ys.map fun x : Str => x.length).sum = ys.length := by
      rw [sum_ones, List.length_map]
      intro x hx
      obtain ⟨y, hy, rfl⟩ := List.mem_map.mp hx
      obtain ⟨_, _, h⟩ := h2.snd y hy
      exact h.1
    have hj : methV .join (.str "") [.lst (ys.map .str)] = some (.val (.str (PySem.Str.join "" ys))) := by
      show (match asStrs (ys.map PV.str) with | some l => if (l.map fun x : Str => x.length).sum + l.length * ("" : Str).length ≤ sz then some (R.val (.str (PySem.Str.join "" l))) else none | none => none) = _
      rw [asStrs_map]
      simp only [hsum]
      rw [if_pos (sz_big (by
        have : ("" : Str).length = 0 := rfl
        rw [this]
        omega))]
    refine ⟨.str (PySem.Str.join "" ys), ?_, join_ok (fun y hy => (h2.snd y hy).elim fun _ h => h.2) hl⟩
    simp [hj, eVl]
theorem w_value {sv : PV} {ns : List Int} (hs : IsScr sv ns) {a : Int} (ha : 0 ≤ a) {s : Srt} {kd : List (Str × List Int)} (hl : ∀ x m r, s = .link x m r → ∃ ks, getA kd x = some ks ∧ (m = false → ks ≠ [])) (W : Om) : ∃ v : Vl, TT.fn i__law_value [sv, .int a, eSrt s, eDct eIs kd] W = .ok (.val (eVl v)) W ∧ VOk kd s v := by
  rw [f__law_value, run_eq rfl]
  have plain : ∀ x y : Str, (s = .num ∨ s = .text) → eSrt s = .str x → idxV (.str x) (.int 0) = some (.str y) → (y == ("link" : Str)) = false → ∃ v : Vl, runO (exs TT d__law_value.body (([sv, .int a, eSrt s, eDct eIs kd] : List PV).map Sl.val ++ List.replicate (d__law_value.nn - d__law_value.np) Sl.un) W) = .ok (.val (eVl v)) W ∧ VOk kd s v := fun x y hp e1 e2 e3 => by
    obtain ⟨v, h1, h2⟩ := w_plain hs ha hp kd W
    rw [e1] at h1
    exact ⟨v, by simp [d__law_value, exs_cons, e1, e2, e3, h1], h2⟩
  cases s with
  | num => exact plain "number" "n" (.inl rfl) rfl rfl (str_ne (by decide +kernel))
  | text => exact plain "text" "t" (.inr rfl) rfl rfl (str_ne (by decide +kernel))
  | link x m r =>
    obtain ⟨ks, hk, hm⟩ := hl x m r rfl
    have h4 : idxV (eDct eIs kd) (.str x) = some (eIs ks) := idx_A hk
    have pa := w_pk hs (m := 3) ha (by decide) W
    have en : cmpOp .eq (eIs ks) (.lst []) = some (decide (ks = [])) := eq_nil_il ks
    have pick : ks ≠ [] → ∃ i ∈ ks, TT.fn i__law_pick [sv, .int (a + 1), .int ks.length] W = .ok (.val (.int (pk ns (a + 1) ks.length : Nat))) W ∧ idxV (eIs ks) (.int (pk ns (a + 1) ks.length : Nat)) = some (.int i) := fun h => by
      have hlen : 0 < ks.length := List.length_pos_iff.mpr h
      have pb := pk_lt ns (a + 1) (m := ks.length) (by omega)
      obtain ⟨i, h1, h2⟩ := idx_ints (l := ks) (i := pk ns (a + 1) ks.length) rfl (by omega)
      exact ⟨i, h2, w_pk hs (by omega) (by omega) W, h1⟩
    cases m with
    | false =>
      obtain ⟨i, hi, h1, h2⟩ := pick (hm rfl)
      exact ⟨.int i, by simp [d__law_value, exs_cons, eSrt, h4, h1, h2, eVl], ⟨ks, hk, hi⟩⟩
    | true =>
      by_cases he : ks = []
      · subst he
        exact ⟨.non, by simp [d__law_value, exs_cons, eSrt, h4, en, eVl, sz_big], rfl⟩
      · by_cases hz : pk ns a 3 = 0
        · rw [hz] at pa
          exact ⟨.non, by simp [d__law_value, exs_cons, eSrt, h4, en, he, eVl, sz_big, pa], rfl⟩
        · obtain ⟨i, hi, h1, h2⟩ := pick he
          have hz' : ((pk ns a 3 : Int) == 0) = false := by simpa using hz
          exact ⟨.int i, by simp [d__law_value, exs_cons, eSrt, h4, en, he, eVl, sz_big, pa, hz, hz', h1, h2], ⟨ks, hk, hi⟩⟩
/-! ### the drawn store -/
theorem getA_cons_new {α : Type} {l : List (Str × α)} {k : Str} {v : α} (h : k ∉ l.map (·.1)) : getA (l ++ [(k, v)]) k = some v := by
  rw [← putA_new h, getA_put, if_pos rfl]
theorem getA_app {α : Type} {l : List (Str × α)} {k q : Str} {v w : α} (h : k ∉ l.map (·.1)) (hq : getA l q = some w) : getA (l ++ [(k, v)]) q = some w := by
  rw [← putA_new h, getA_put, if_neg, hq]
  rintro rfl
  exact h (List.mem_map.mpr ⟨_, getA_keys hq, rfl⟩)
structure KeysOk (ks : List Int) : Prop where
  asc : ks.Pairwise (· < ·)
  pos : ∀ i ∈ ks, 1 ≤ i
  big : ∀ i ∈ ks, i ≤ 2 * (ks.length : Int)
theorem KeysOk.snoc {ks : List Int} (h : KeysOk ks) {m p : Int} (hm : ∀ y ∈ 0 :: ks, y ≤ m) (hb : m ≤ 2 * (ks.length : Int)) (h0 : 0 ≤ p) (h1 : p < 2) : KeysOk (ks ++ [m + 1 + p]) := by
  have m0 := hm 0 (by simp)
  refine ⟨?_, ?_, ?_⟩
  · rw [List.pairwise_append]
    refine ⟨h.asc, by simp, fun a ha b hb => ?_⟩
    simp at hb
    have := hm a (by simp [ha])
    omega
  · intro i hi
    rcases List.mem_append.mp hi with hi | hi
    · exact h.pos i hi
    · simp at hi
      omega
  · intro i hi
    simp only [List.length_append, List.length_cons, List.length_nil]
    rcases List.mem_append.mp hi with hi | hi
    · have := h.big i hi
      omega
    · simp at hi
      omega
/-- what is kept of the keys -/
structure KdOk (c : List (Str × Nat)) (kd : List (Str × List Int)) : Prop where
  keys : ∀ p ∈ kd, KeysOk p.2
  len : ∀ p ∈ kd, getA c p.1 = some p.2.length
theorem itV_en_ints (l : List Int) : itV .enum [eIs l] = some (l.zipIdx.map (eNm .int)) := itV_enl PV.int l
def St5 (s : Sl) (kd : List (Str × List Int)) : Prop := s = .own (cDct eIs kd) ∨ s = .val (eDct eIs kd)
def ShK (kd : List (Str × List Int)) (most : Nat) (k : Knd) (s : Shf) : Prop := getA kd k.1 = some (keysOf s) ∧ ShfOk kd k s ∧ s.1 ≤ 2 * (most : Int) + 2 ∧ s.2.length ≤ most ∧ ∀ r ∈ s.2, r.2.1 ≤ 3
theorem w_store {sv : PV} {ns : List Int} (hs : IsScr sv ns) {a : Int} (ha : 0 ≤ a) {S : Sch} (ok : SchOk S) {most : Nat} (hb : most ≤ 1000) (W : Om) : ∃ st : Sto, TT.fn i__law_store [sv, .int a, eSch S, .int most] W = .ok (.val (eSto st)) W ∧ StoOk S st ∧ StoSm st most := by
  obtain ⟨c, hc, hck, hcl, hcm⟩ := w_counts hs ha ok most W
  rw [f__law_store, run_eq rfl]
  have l4 := ok.l4
  simp only [d__law_store, List.map_cons, List.map_nil, List.cons_append, List.nil_append, List.replicate]
  rw [exs_nx (env' := [.val sv, .val (.int a), .val (eSch S), .val (.int most), .val (eDct eNat c), .un, .un, .un, .un, .un, .un, .un, .un, .un, .un, .un, .un, .un, .un]) (W' := W) (by simp [hc])]
  rw [exs_nx (env' := [.val sv, .val (.int a), .val (eSch S), .val (.int most), .val (eDct eNat c), .own (cDct eIs []), .un, .un, .un, .un, .un, .un, .un, .un, .un, .un, .un, .un, .un]) (W' := W) (by simp [cDct_nil])]
  obtain ⟨kd, h1, hk1, hkd⟩ := for_inv (fun l (s : List (Str × List Int)) => s.map (·.1) ++ l.map (·.1.1) = names S ∧ KdOk c s) S.zipIdx (eNm eKnd) (fun s => [.val sv, .val (.int a), .val (eSch S), .val (.int most), .val (eDct eNat c), .own (cDct eIs s), .un, .un, .un, .un, .un, .un, .un, .un, .un, .un, .un, .un, .un]) [] (T := TT) (tg := .tp [(.nm 7), (.nm 8)]) (k := .enum) (es := [(.var 2)]) (body := [(.own 9 (.lst [])), (.fr (.nm 10) .rng [(.idx (.var 4) (.idx (.var 8) (.int 0)))] [(.app 9 (.op .add (.op .add (.blt .max [(.op .add (.lst [(.int 0)]) (.var 9))]) (.int 1)) (.call i__law_pick [(.var 0), (.op .add (.op .add (.op .add (.var 1) (.int 5)) (.op .mul (.int 7) (.var 7))) (.var 10)), (.int 2)])))] [10]), (.frz [9] (.put 5 (.idx (.var 8) (.int 0)) (.var 9)))]) (kil := [7, 8, 9, 10])
    (env := [.val sv, .val (.int a), .val (eSch S), .val (.int most), .val (eDct eNat c), .own (cDct eIs []), .un, .un, .un, .un, .un, .un, .un, .un, .un, .un, .un, .un, .un]) (W := W) (by simp) rfl (by
      refine ⟨?_, ⟨by simp, by simp⟩⟩
      have : (S.zipIdx.map (·.1.1)) = (S.zipIdx.map (·.1)).map (·.1) := by rw [List.map_map]; rfl
      rw [this, List.zipIdx_map_fst]
      rfl) (by
    rintro s ⟨k, j⟩ l ⟨hI, hkd⟩
    have hn : k.1 ∉ s.map (·.1) := fun h => by
      have nd := ok.nd
      rw [← hI] at nd
      exact (List.nodup_append.mp nd).2.2 _ h _ (by simp) rfl
    have hlen : s.length < 4 := by
      have := congrArg List.length hI
      simp [names] at this
      omega
    have hkn : k.1 ∈ c.map (·.1) := by
      rw [hck, ← hI]
      simp
    obtain ⟨n, hn'⟩ := getA_mem hkn
    have hnm : n ≤ most := hcm _ (getA_keys hn')
    have hix : idxV (eDct eNat c) (.str k.1) = some (.int n) := idx_A hn'
    obtain ⟨ks, g1, g2, g3⟩ := for_inv (fun (l : List Nat) (t : List Int) => KeysOk t ∧ t.length + l.length = n) (List.range n) eNat (fun t => [.val sv, .val (.int a), .val (eSch S), .val (.int most), .val (eDct eNat c), .own (cDct eIs s), .un, .val (.int j), .val (eKnd k), .own (.l (t.map .int)), .un, .un, .un, .un, .un, .un, .un, .un, .un]) [] (T := TT) (tg := (.nm 10)) (k := .rng) (es := [(.idx (.var 4) (.idx (.var 8) (.int 0)))]) (body := [(.app 9 (.op .add (.op .add (.blt .max [(.op .add (.lst [(.int 0)]) (.var 9))]) (.int 1)) (.call i__law_pick [(.var 0), (.op .add (.op .add (.op .add (.var 1) (.int 5)) (.op .mul (.int 7) (.var 7))) (.var 10)), (.int 2)])))]) (kil := [10])
      (env := [.val sv, .val (.int a), .val (eSch S), .val (.int most), .val (eDct eNat c), .own (cDct eIs s), .un, .val (.int j), .val (eKnd k), .own (.l []), .un, .un, .un, .un, .un, .un, .un, .un, .un]) (W := W) (by simp [hix]; rw [itV_rng rfl (by omega)]; rfl) rfl ⟨⟨by simp, by simp, by simp⟩, by simp⟩ (by
      rintro t i l ⟨ht, hl⟩
      have pj := w_pk hs (k := a + 5 + 7 * (j : Int) + (i : Int)) (m := 2) (by omega) (by decide) W
      have pb := pk_lt ns (a + 5 + 7 * (j : Int) + (i : Int)) (m := 2) (by decide)
      obtain ⟨m, m1, m2, m3⟩ := max_of 0 t (B := 2 * (t.length : Int)) (by
        intro y hy
        rcases List.mem_cons.mp hy with rfl | hy
        · omega
        · exact ht.big y hy)
      have hs1 : t.length < sz := sz_lt (by simp at hl; omega)
      have hs2 : 1 + t.length ≤ sz := sz_big (by simp at hl; omega)
      refine ⟨t ++ [m + 1 + (pk ns (a + 5 + 7 * (j : Int) + (i : Int)) 2 : Nat)], ?_, ht.snoc m3 m2 (by omega) pb, by simp at hl ⊢; omega⟩
      simp [eNat, xApp_app, sz_big, hs1, hs2, Nat.add_comm t.length 1, m1, b_mul (a := 7) (.inl (by decide)), pj])
    have hp := put_A eIs (l := s) k.1 ks (sz_lt (by omega))
    have hp' : putC (cDct eIs s) (.str k.1) (.lst (ks.map .int)) = _ := hp
    refine ⟨putA s k.1 ks, ?_, ?_, ?_⟩
    · simp [exs_cons, sz_big]
      rw [g1]
      simp [ex_put, xPut_app, hp']
    · rw [putA_new hn, List.map_append, List.append_assoc]
      exact hI
    · rw [putA_new hn]
      refine ⟨fun p hp => ?_, fun p hp => ?_⟩
      · rcases List.mem_append.mp hp with hp | hp
        · exact hkd.keys p hp
        · simp at hp
          rw [hp]
          exact g2
      · rcases List.mem_append.mp hp with hp | hp
        · exact hkd.len p hp
        · simp at hp g3
          rw [hp, hn', g3])
  rw [exs_nx h1]
  clear h1
  simp at hk1
  rw [exs_nx (env' := [.val sv, .val (.int a), .val (eSch S), .val (.int most), .val (eDct eNat c), .own (cDct eIs kd), .own (.l []), .un, .un, .un, .un, .un, .un, .un, .un, .un, .un, .un, .un]) (W' := W) (by simp [sz_big])]
  have kget : ∀ x ∈ names S, ∃ ks, getA kd x = some ks ∧ KeysOk ks ∧ getA c x = some ks.length := fun x hx => by
    obtain ⟨ks, h⟩ := getA_mem (l := kd) (by rw [hk1]; exact hx)
    have hm := getA_keys h
    exact ⟨ks, h, hkd.keys _ hm, hkd.len _ hm⟩
  obtain ⟨⟨s5, st⟩, h2, _, hst⟩ := for_inv (fun l (s : Sl × Sto) => St5 s.1 kd ∧ ∃ done : Sch, done ++ l.map (·.1) = S ∧ F2 (ShK kd most) done s.2) S.zipIdx (eNm eKnd) (fun s => [.val sv, .val (.int a), .val (eSch S), .val (.int most), .val (eDct eNat c), s.1, .own (.l (s.2.map eShf)), .un, .un, .un, .un, .un, .un, .un, .un, .un, .un, .un, .un]) (.own (cDct eIs kd), []) (T := TT) (tg := .tp [(.nm 7), (.tp [(.nm 12), (.nm 13)])]) (k := .enum) (es := [(.var 2)]) (body := [(.own 11 (.lst [])), (.fr (.tp [(.nm 10), (.nm 14)]) .enum [(.idx (.var 5) (.var 12))] [(.asg (.nm 15) (.op .add (.op .add (.op .add (.var 1) (.int 30)) (.op .mul (.int 150) (.var 7))) (.op .mul (.int 30) (.var 10)))), (.frz [5] (.asg (.nm 16) (.comp (.call i__law_value [(.var 0), (.op .add (.var 15) (.op .mul (.int 7) (.var 17))), (.idx (.var 18) (.int 1)), (.var 5)]) (.tp [(.nm 17), (.nm 18)]) .enum [(.var 13)] [] [("_law_f", 17), ("_law_field", 18)]))), (.app 11 (.tup [(.var 14), (.op .add (.int 1) (.call i__law_pick [(.var 0), (.op .add (.var 15) (.int 28)), (.int 3)])), (.blt .tuple [(.var 16)])]))] [10, 14, 15, 16]), (.app 6 (.tup [(.op .add (.op .add (.blt .max [(.op .add (.lst [(.int 0)]) (.idx (.var 5) (.var 12)))]) (.int 1)) (.call i__law_pick [(.var 0), (.op .add (.var 1) (.int 4)), (.int 2)])), (.blt .tuple [(.var 11)])]))]) (kil := [7, 10, 11, 12, 13, 14, 15, 16])
    (env := [.val sv, .val (.int a), .val (eSch S), .val (.int most), .val (eDct eNat c), .own (cDct eIs kd), .own (.l []), .un, .un, .un, .un, .un, .un, .un, .un, .un, .un, .un, .un]) (W := W) (by simp) rfl ⟨.inl rfl, [], by simp, .nil⟩ (by
    rintro ⟨s5, shs⟩ ⟨k, j⟩ l ⟨h5, done, hd, hf⟩
    have hkS : k ∈ S := by rw [← hd]; simp
    obtain ⟨ks, hks, hko, hkc⟩ := kget k.1 (mem_names hkS)
    have hix : idxV (eDct eIs kd) (.str k.1) = some (eIs ks) := idx_A hks
    have hkl : ks.length ≤ most := hcm _ (getA_keys hkc)
    obtain ⟨⟨t5, rows⟩, g1, g2, g3, g4⟩ := for_inv (fun (l : List (Int × Nat)) (t : Sl × List D.Row) => St5 t.1 kd ∧ t.2.map (·.1) ++ l.map (·.1) = ks ∧ ∀ r ∈ t.2, RowOk kd k r ∧ r.2.1 ≤ 3) ks.zipIdx (eNm .int) (fun t => [.val sv, .val (.int a), .val (eSch S), .val (.int most), .val (eDct eNat c), t.1, .own (.l (shs.map eShf)), .val (.int j), .un, .un, .un, .own (.l (t.2.map eRow)), .val (.str k.1), .val (eFlds k.2), .un, .un, .un, .un, .un]) (s5, []) (T := TT) (tg := .tp [(.nm 10), (.nm 14)]) (k := .enum) (es := [(.idx (.var 5) (.var 12))]) (body := [(.asg (.nm 15) (.op .add (.op .add (.op .add (.var 1) (.int 30)) (.op .mul (.int 150) (.var 7))) (.op .mul (.int 30) (.var 10)))), (.frz [5] (.asg (.nm 16) (.comp (.call i__law_value [(.var 0), (.op .add (.var 15) (.op .mul (.int 7) (.var 17))), (.idx (.var 18) (.int 1)), (.var 5)]) (.tp [(.nm 17), (.nm 18)]) .enum [(.var 13)] [] [("_law_f", 17), ("_law_field", 18)]))), (.app 11 (.tup [(.var 14), (.op .add (.int 1) (.call i__law_pick [(.var 0), (.op .add (.var 15) (.int 28)), (.int 3)])), (.blt .tuple [(.var 16)])]))]) (kil := [10, 14, 15, 16])
      (env := [.val sv, .val (.int a), .val (eSch S), .val (.int most), .val (eDct eNat c), s5, .own (.l (shs.map eShf)), .val (.int j), .un, .un, .un, .own (.l []), .val (.str k.1), .val (eFlds k.2), .un, .un, .un, .un, .un]) (W := W) (by rcases h5 with rfl | rfl <;> simp [hix, itV_en_ints]) rfl ⟨h5, by
        have : (ks.zipIdx.map (·.1)) = ks := List.zipIdx_map_fst ..
        simpa using this, by simp⟩ (by
      rintro ⟨t5, rows⟩ ⟨key, i⟩ l ⟨t5h, tk, tr⟩
      have hne : ks ≠ [] := fun e => by rw [e] at tk; simp at tk
      obtain ⟨ys, y1, y2⟩ := comp_ex k.2.zipIdx (eNm eFld) eVl (fun p v => VOk kd p.1.2 v) (T := TT) (e := (.call i__law_value [(.var 0), (.op .add (.var 15) (.op .mul (.int 7) (.var 17))), (.idx (.var 18) (.int 1)), (.var 5)])) (tg := (.tp [(.nm 17), (.nm 18)])) (k := .enum) (es := [(.var 13)]) (c := []) (own := [("_law_f", 17), ("_law_field", 18)])
        (env := [.val sv, .val (.int a), .val (eSch S), .val (.int most), .val (eDct eNat c), .val (eDct eIs kd), .own (.l (shs.map eShf)), .val (.int j), .un, .un, .val (.int i), .own (.l (rows.map eRow)), .val (.str k.1), .val (eFlds k.2), .val (.int key), .val (.int (a + 30 + 150 * (j : Int) + 30 * (i : Int))), .un, .un, .un]) (W := W) (by simp) (by
          have := (ok.fl k hkS).2
          rw [List.length_zipIdx]
          exact sz_big (by omega)) (by
        rintro ⟨f, q⟩ hm
        have hf : f ∈ k.2 := by
          have : (f, q).1 ∈ k.2.zipIdx.map Prod.fst := List.mem_map.mpr ⟨_, hm, rfl⟩
          rwa [List.zipIdx_map_fst] at this
        obtain ⟨v, v1, v2⟩ := w_value hs (a := a + 30 + 150 * (j : Int) + 30 * (i : Int) + 7 * (q : Int)) (by omega) (s := f.2) (kd := kd) (by
          intro x m r e
          obtain ⟨xs, x1, x2, x3⟩ := kget x (ok.lk k hkS f hf x m r e)
          refine ⟨xs, x1, fun e2 e3 => ?_⟩
          subst e2
          subst e3
          have := hcl k hkS f hf x r e x3
          rw [hkc] at this
          simp at this
          exact hne this) W
        exact ⟨v, by simp [b_mul (a := 7) (.inl (by decide)), v1], v2⟩)
      have pj := w_pk hs (k := a + 30 + 150 * (j : Int) + 30 * (i : Int) + 28) (m := 3) (by omega) (by decide) W
      have pb := pk_lt ns (a + 30 + 150 * (j : Int) + 30 * (i : Int) + 28) (m := 3) (by decide)
      have hrl : rows.length < sz := sz_lt (by
        have := congrArg List.length tk
        simp at this
        omega)
      have yf : F2 (fun f v => VOk kd f.2 v) k.2 ys := by
        have := F2.map (f := Prod.fst) (P := fun (f : Fld) v => VOk kd f.2 v) y2
        rwa [List.zipIdx_map_fst] at this
      refine ⟨(.val (eDct eIs kd), rows ++ ([(key, 1 + (pk ns (a + 30 + 150 * (j : Int) + 30 * (i : Int) + 28) 3 : Nat), ys)] : List D.Row)), ?_, .inr rfl, ?_, ?_⟩
      · rcases t5h with rfl | rfl <;> (simp [exs_cons, b_mul (a := 150) (.inl (by decide)), b_mul (a := 30) (.inl (by decide))]; rw [y1]; simp [xApp_app, pj, sz_big, hrl, eRow, eVls])
      · simpa using tk
      · intro r hr
        rcases List.mem_append.mp hr with hr | hr
        · exact tr r hr
        · simp at hr
          subst hr
          exact ⟨⟨by simp; omega, yf⟩, by simp; omega⟩)
    simp at g3
    have pj := w_pk hs (k := a + 4) (m := 2) (by omega) (by decide) W
    have pb := pk_lt ns (a + 4) (m := 2) (by decide)
    obtain ⟨m, m1, m2, m3⟩ := max_of 0 ks (B := 2 * (ks.length : Int)) (by
      intro y hy
      rcases List.mem_cons.mp hy with rfl | hy
      · omega
      · exact hko.big y hy)
    have hsl : shs.length < sz := sz_lt (by
      have h1 : shs.length = done.length := hf.len
      have h2 := congrArg List.length hd
      simp at h2
      omega)
    have hs2 : 1 + ks.length ≤ sz := sz_big (by omega)
    have hks' : idxV (eDct eIs kd) (.str k.1) = some (.lst (ks.map .int)) := hix
    have m0 := m3 0 (by simp)
    refine ⟨(t5, shs ++ [(m + 1 + (pk ns (a + 4) 2 : Nat), rows)]), ?_, g2, done ++ [k], by simpa using hd, hf.app (.cons ⟨?_, ⟨?_, ?_, ?_, ?_, fun r hr => (g4 r hr).1⟩, ?_, ?_, fun r hr => (g4 r hr).2⟩ .nil)⟩
    · simp [exs_cons, sz_big]
      rw [g1]
      rcases g2 with rfl | rfl <;> simp [xApp_app, sz_big, hsl, hs2, Nat.add_comm ks.length 1, hks', m1, pj, eShf, eRows]
    · rw [hks, keysOf, g3]
    · rw [keysOf, g3]; exact hko.asc
    · rw [keysOf, g3]; exact hko.pos
    · rw [keysOf, g3]
      intro i hi
      have := m3 i (by simp [hi])
      simp
      omega
    · simp
      omega
    · simp
      omega
    · have := congrArg List.length g3
      simp at this
      simp
      omega)
  rw [exs_nx h2]
  obtain ⟨done, hd, hf⟩ := hst
  simp at hd
  subst hd
  refine ⟨st, by simp [eSto], sto_of ok.nd hk1 (hf.imp fun k s _ h => ⟨h.1, h.2.1⟩), ⟨fun s hs => ?_, fun s hs => ?_, fun s hs => ?_⟩⟩
  · obtain ⟨k, _, h⟩ := hf.snd s hs
    exact h.2.2.2.1
  · obtain ⟨k, _, h⟩ := hf.snd s hs
    exact h.2.2.1
  · obtain ⟨k, _, h⟩ := hf.snd s hs
    exact h.2.2.2.2
/-! ### what the program reads of a store -/
theorem w_is_plain (s : Srt) (W : Om) : TT.fn i_is_plain [eSrt s] W = .ok (.val (.bl (!isL s))) W := by
  rw [f_is_plain, run_eq rfl]
  cases s <;> simp [d_is_plain, eSrt, isiV, isL]
theorem isi_srt (s : Srt) : isiV .str (eSrt s) = some (!isL s) := by cases s <;> rfl
theorem w_kind_names {S : Sch} (ok : SchOk S) (W : Om) : TT.fn i_kind_names [eSch S] W = .ok (.fre (.l ((names S).map .str))) W := by
  rw [f_kind_names, run_eq rfl]
  simp [d_kind_names]
  have l4 := ok.l4
  rw [comp_m S eKnd (fun k => .str k.1) (by simp) (sz_big (by omega)) (by intro x hx; simp)]
  simp [names, Function.comp_def]
theorem w_fields_of {S : Sch} (ok : SchOk S) {k : Str} (h : k ∈ names S) (W : Om) : TT.fn i_fields_of [eSch S, .str k] W = .ok (.val (eFlds (fieldsOf S k))) W := by
  rw [f_fields_of, run_eq rfl]
  have h1 := atI_get eKnd (sch_at h)
  have h2 : idxV (eSch S) (.int (ix k (names S) : Nat)) = some (eKnd (k, fieldsOf S k)) := h1
  simp [d_fields_of, w_kind_names ok, m_index h, h2, TT_pu]
/-! ### is_schema, of what has a schema's shape -/
def letB (c : Nat) : Bool := decide (c ∈ ("abcdefghijklmnopqrstuvwxyz" : Str).cps.toList)
theorem in_let (c : Nat) : inV (.str ⟨#[c]⟩) (.str "abcdefghijklmnopqrstuvwxyz") = some (letB c) := rfl
def nmB (x : Str) : Bool := decide (1 ≤ x.length) && decide (x.length ≤ 6) && x.cps.toList.all letB
theorem w_is_name (x : Str) (W : Om) : TT.fn i_is_name [.str x] W = .ok (.val (.bl (nmB x))) W := by
  rw [f_is_name, run_eq rfl]
  by_cases h1 : 1 ≤ x.length
  · by_cases h6 : x.length ≤ 6
    · have h1' : (1 : Int) ≤ (x.length : Int) := by omega
      have h6' : (x.length : Int) ≤ 6 := by omega
      have hx : x.cps.toList.length ≤ 6 := by
        have : x.cps.toList.length = x.length := by rw [Array.length_toList]; rfl
        omega
      have hc := comp_m x.cps.toList (fun c => PV.str ⟨#[c]⟩) (fun c => .bl (letB c)) (T := TT) (e := (.cmp .isin (.var 1) (.glb "LETTERS" (.str "abcdefghijklmnopqrstuvwxyz")))) (tg := (.nm 1)) (k := .one) (es := [(.var 0)]) (c := []) (own := [("sign", 1)]) (env := [.val (.str x), .un]) (W := W) (by simp [itemsV, charsV]) (sz_big (by omega)) (by
        intro c hc
        simp [in_let])
      have ha := all_map letB x.cps.toList
      simp [d_is_name, exs_cons, h1', h6', hc, ha, nmB, h1, h6]
    · have h6' : ¬ (x.length : Int) ≤ 6 := by omega
      have h1' : (1 : Int) ≤ (x.length : Int) := by omega
      simp [d_is_name, exs_cons, h1', h6', nmB, h6]
  · have h1' : ¬ (1 : Int) ≤ (x.length : Int) := by omega
    simp [d_is_name, exs_cons, h1', nmB, h1]
def ruB (r : Str) : Bool := (("bar" : Str) == r) || ((("none" : Str) == r) || (("along" : Str) == r))
theorem in_rules (r : Str) : inV (.str r) (.tup [.str "bar", .str "none", .str "along"]) = some (ruB r) := by
  show some (List.any [PV.str "bar", .str "none", .str "along"] fun y => eqv y (.str r)) = _
  simp [ruB, eqv]
def srB : Srt → Bool
  | .link k m r => nmB k && (ruB r && (m || !(r == ("none" : Str))))
  | _ => true
theorem w_is_sort (s : Srt) (W : Om) : TT.fn i_is_sort [eSrt s] W = .ok (.val (.bl (srB s))) W := by
  rw [f_is_sort, run_eq rfl]
  cases s with
  | num => simp [d_is_sort, exs_cons, eSrt, srB]
  | text =>
    have n1 : (("text" : Str) == ("number" : Str)) = false := str_ne (by decide +kernel)
    simp [d_is_sort, exs_cons, eSrt, srB, n1]
  | link k m r =>
    cases hn : nmB k with
    | false => simp [d_is_sort, exs_cons, eSrt, srB, w_is_name, hn]
    | true =>
      cases hr : ruB r with
      | false => simp [d_is_sort, exs_cons, eSrt, srB, w_is_name, hn, in_rules, hr]
      | true => cases m <;> simp [d_is_sort, exs_cons, eSrt, srB, w_is_name, hn, in_rules, hr]
def fdB (f : Fld) : Bool := nmB f.1 && srB f.2
theorem w_is_field (f : Fld) (W : Om) : TT.fn i_is_field [eFld f] W = .ok (.val (.bl (fdB f))) W := by
  rw [f_is_field, run_eq rfl]
  cases hn : nmB f.1 <;> simp [d_is_field, exs_cons, eFld, w_is_name, w_is_sort, hn, fdB]
theorem dcK_eq {α : Type} (h : α → Str) (fs : List α) : (((dcK (fs.map fun f => Sum.inr (h f)) : Nat) : Int) == (fs.length : Int)) = decide ((fs.map h).Nodup) := by
  have hk : (fs.map fun f => (Sum.inr (h f) : Key)) = (fs.map h).map Sum.inr := by simp
  have hkn : ((fs.map h).map (Sum.inr : Str → Key)).Nodup ↔ (fs.map h).Nodup := by
    constructor
    · intro q; exact List.Pairwise.of_map _ (fun a b hab e => hab (congrArg Sum.inr e)) q
    · intro q; exact List.Pairwise.map _ (fun a b hab e => hab (Sum.inr.inj e)) q
  rw [hk]
  by_cases hd : (fs.map h).Nodup
  · rw [dcK_nodup (hkn.mpr hd)]
    simp [hd]
  · have := dcK_lt (fun q => hd (hkn.mp q))
    rw [decide_eq_false hd]
    simp at this ⊢
    omega
@[simp] theorem len_knd (k : Knd) : lenV (eKnd k) = some 2 := (rfl)
@[simp] theorem isit_knd (k : Knd) : isiV .tuple (eKnd k) = some true := (rfl)
@[simp] theorem isit_flds (fs : List Fld) : isiV .tuple (eFlds fs) = some true := (rfl)
@[simp] theorem isit_sch (S : Sch) : isiV .tuple (eSch S) = some true := (rfl)
def kdB (k : Knd) : Bool := nmB k.1 && (decide (1 ≤ k.2.length) && (decide (k.2.length ≤ 5) && (k.2.all fdB && decide ((k.2.map (·.1)).Nodup))))
theorem w_is_kind (k : Knd) (W : Om) : TT.fn i_is_kind [eKnd k] W = .ok (.val (.bl (kdB k))) W := by
  rw [f_is_kind, run_eq rfl]
  cases hn : nmB k.1 with
  | false => simp [d_is_kind, exs_cons, eKnd, w_is_name, hn, kdB]
  | true =>
    by_cases h1 : 1 ≤ k.2.length
    · by_cases h5 : k.2.length ≤ 5
      · have h1' : (1 : Int) ≤ (k.2.length : Int) := by omega
        have h5' : (k.2.length : Int) ≤ 5 := by omega
        have hc := comp_m k.2 eFld (fun f => .bl (fdB f)) (T := TT) (e := (.call i_is_field [(.var 1)])) (tg := (.nm 1)) (k := .one) (es := [(.idx (.var 0) (.int 1))]) (c := []) (own := [("field", 1)]) (env := [.val (eKnd k), .un]) (W := W) (by simp) (sz_big (by omega)) (by
          intro f hf
          simp [w_is_field])
        have ha := all_map fdB k.2
        have hc2 := comp_m k.2 eFld (fun f => .str f.1) (T := TT) (e := (.idx (.var 1) (.int 0))) (tg := (.nm 1)) (k := .one) (es := [(.idx (.var 0) (.int 1))]) (c := []) (own := [("field", 1)]) (env := [.val (eKnd k), .un]) (W := W) (by simp) (sz_big (by omega)) (by
          intro f hf
          simp)
        have hl := lenset_strs (fun f : Fld => f.1) k.2 (by omega)
        have hd := dcK_eq (fun f : Fld => f.1) k.2
        have e0 : idxV (eKnd k) (.int 0) = some (.str k.1) := by simp
        have e1 : idxV (eKnd k) (.int 1) = some (eFlds k.2) := by simp
        cases hq : k.2.all fdB <;> simp [d_is_kind, exs_cons, w_is_name, hn, kdB, h1', h5', h1, h5, hc, ha, hq, hc2, hl, hd]
      · have h5' : ¬ (k.2.length : Int) ≤ 5 := by omega
        have h1' : (1 : Int) ≤ (k.2.length : Int) := by omega
        simp [d_is_kind, exs_cons, w_is_name, hn, kdB, h1', h5', h5]
    · have h1' : ¬ (1 : Int) ≤ (k.2.length : Int) := by omega
      simp [d_is_kind, exs_cons, w_is_name, hn, kdB, h1', h1]
def ldB (N : List Str) (f : Fld) : Bool := match f.2 with
  | .link k _ _ => decide (k ∈ N)
  | _ => true
theorem in_strs (x : Str) (N : List Str) : inV (.str x) (.lst (N.map .str)) = some (decide (x ∈ N)) := by
  show (if dat 60 (.str x) && dats 60 (N.map PV.str) then some ((N.map PV.str).any fun y => eqv y (.str x)) else none) = _
  rw [dat_str, dats_map fun y _ => dat_str 60 y]
  simp only [Bool.and_self, if_true]
  congr 1
  rw [Bool.eq_iff_iff]
  simp [eqv]
theorem w_leads_to_some (k : Knd) (N : List Str) (h5 : k.2.length ≤ 5) (W : Om) : TT.fn i_leads_to_some [eKnd k, .lst (N.map .str)] W = .ok (.val (.bl (k.2.all (ldB N)))) W := by
  rw [f_leads_to_some, run_eq rfl]
  have hc := comp_m k.2 eFld (fun f => .bl (ldB N f)) (T := TT) (e := (.or [(.call i_is_plain [(.idx (.var 2) (.int 1))]), (.cmp .isin (.idx (.idx (.var 2) (.int 1)) (.int 1)) (.var 1))])) (tg := (.nm 2)) (k := .one) (es := [(.idx (.var 0) (.int 1))]) (c := []) (own := [("field", 2)]) (env := [.val (eKnd k), .val (.lst (N.map .str)), .un]) (W := W) (by simp) (sz_big (by omega)) (by
    intro f hf
    cases hs : f.2 with
    | num => simp [w_is_plain, hs, isL, ldB]
    | text => simp [w_is_plain, hs, isL, ldB]
    | link x m r =>
      have e1 : idxV (eSrt (.link x m r)) (.int 1) = some (.str x) := by simp [eSrt]
      simp [w_is_plain, hs, isL, ldB, e1, in_strs])
  have ha := all_map (ldB N) k.2
  simp [d_leads_to_some, exs_cons, hc, ha]
def schB (S : Sch) : Bool := decide (1 ≤ S.length) && (decide (S.length ≤ 4) && (S.all kdB && (decide ((names S).Nodup) && S.all fun k => k.2.all (ldB (names S)))))
theorem w_is_schema (S : Sch) (W : Om) : TT.fn i_is_schema [eSch S] W = .ok (.val (.bl (schB S))) W := by
  rw [f_is_schema, run_eq rfl]
  by_cases h1 : 1 ≤ S.length
  · by_cases h4 : S.length ≤ 4
    · have h1' : (1 : Int) ≤ (S.length : Int) := by omega
      have h4' : (S.length : Int) ≤ 4 := by omega
      have hc := comp_m S eKnd (fun k => .bl (kdB k)) (T := TT) (e := (.call i_is_kind [(.var 2)])) (tg := (.nm 2)) (k := .one) (es := [(.var 0)]) (c := []) (own := [("kind", 2)]) (env := [.val (eSch S), .un, .un]) (W := W) (by simp) (sz_big (by omega)) (by
        intro k hk
        simp [w_is_kind])
      have ha := all_map kdB S
      cases hq : S.all kdB with
      | false => simp [d_is_schema, exs_cons, h1', h4', h1, h4, hc, ha, hq, schB]
      | true =>
        have hc2 := comp_m S eKnd (fun k => .str k.1) (T := TT) (e := (.idx (.var 2) (.int 0))) (tg := (.nm 2)) (k := .one) (es := [(.var 0)]) (c := []) (own := [("kind", 2)]) (env := [.val (eSch S), .un, .un]) (W := W) (by simp) (sz_big (by omega)) (by
          intro f hf
          simp)
        have hl := lenset_strs (fun k : Knd => k.1) S (by omega)
        have hd := dcK_eq (fun k : Knd => k.1) S
        have hN : S.map (fun k => PV.str k.1) = (names S).map .str := by simp [names, Function.comp_def]
        rw [hN] at hc2 hl
        have hc3 := comp_m S eKnd (fun k => .bl (k.2.all (ldB (names S)))) (T := TT) (e := (.call i_leads_to_some [(.var 2), (.var 1)])) (tg := (.nm 2)) (k := .one) (es := [(.var 0)]) (c := []) (own := [("kind", 2)]) (env := [.val (eSch S), .val (.lst ((names S).map .str)), .un]) (W := W) (by simp) (sz_big (by omega)) (by
          intro k hk
          have h5 : k.2.length ≤ 5 := by
            have := List.all_eq_true.mp hq k hk
            unfold kdB at this
            simp only [Bool.and_eq_true, decide_eq_true_eq] at this
            exact this.2.2.1
          simp [w_leads_to_some k (names S) h5])
        have ha3 := all_map (fun k : Knd => k.2.all (ldB (names S))) S
        have hln : lenV (.lst ((names S).map .str)) = some S.length := by simp [lenV, names]
        have hdd : decide ((names S).Nodup) = decide ((S.map fun k => k.1).Nodup) := rfl
        cases hnd : decide ((S.map fun k => k.1).Nodup) <;> simp [d_is_schema, exs_cons, h1', h4', h1, h4, hc, ha, hq, hc2, hl, hd, hc3, ha3, hln, schB, hdd, hnd]
    · have h4' : ¬ (S.length : Int) ≤ 4 := by omega
      have h1' : (1 : Int) ≤ (S.length : Int) := by omega
      simp [d_is_schema, exs_cons, h1', h4', h4, schB]
  · have h1' : ¬ (1 : Int) ≤ (S.length : Int) := by omega
    simp [d_is_schema, exs_cons, h1', h1, schB]
/-! ### is_store, of any plain value -/
theorem w_whole {p : PV} {n : Nat} (h : dat n p = true) (W : Om) : TT.fn i_is_whole [p] W = .ok (.val (.bl (wholeB p))) W := by
  rw [f_is_whole, run_eq rfl]
  cases p <;> first | (simp [d_is_whole, wholeB]; done) | (exfalso; cases n <;> simp [dat] at h)
theorem sgn_le (c : Nat) : cmpOp .le (.str " ") (.str ⟨#[c]⟩) = some (decide (32 ≤ c)) := by
  have : ltS ⟨#[c]⟩ " " = decide (c < 32) := by
    unfold ltS
    have e : (" " : Str).cps.toList = [32] := by rfl
    rw [e]
    simp [List.cons_lt_cons_iff]
  show some (!ltS ⟨#[c]⟩ " ") = _
  rw [this]
  congr 1
  rw [Bool.eq_iff_iff]
  simp
theorem le_sgn (c : Nat) : cmpOp .le (.str ⟨#[c]⟩) (.str "~") = some (decide (c ≤ 126)) := by
  have : ltS "~" ⟨#[c]⟩ = decide (126 < c) := by
    unfold ltS
    have e : ("~" : Str).cps.toList = [126] := by rfl
    rw [e]
    simp [List.cons_lt_cons_iff]
  show some (!ltS "~" ⟨#[c]⟩) = _
  rw [this]
  congr 1
  rw [Bool.eq_iff_iff]
  simp
def txB : PV → Bool
  | .str x => txtOk x
  | _ => false
theorem w_text {p : PV} {n : Nat} (h : dat n p = true) (W : Om) : TT.fn i_is_text [p] W = .ok (.val (.bl (txB p))) W := by
  rw [f_is_text, run_eq rfl]
  cases p with
  | str x =>
    by_cases hl : x.length ≤ 8
    · have hl' : (x.length : Int) ≤ 8 := by omega
      have hx : x.cps.toList.length ≤ 8 := by
        have : x.cps.toList.length = x.length := by rw [Array.length_toList]; rfl
        omega
      have hc := comp_m x.cps.toList (fun c => PV.str ⟨#[c]⟩) (fun c => .bl (decide (32 ≤ c) && decide (c ≤ 126))) (T := TT) (e := (.cmp2 .le .le (.str " ") (.var 1) (.str "~"))) (tg := (.nm 1)) (k := .one) (es := [(.var 0)]) (c := []) (own := [("sign", 1)]) (env := [.val (.str x), .un]) (W := W) (by simp [itemsV, charsV]) (sz_big (by omega)) (by
        intro c hc
        by_cases a : 32 ≤ c <;> simp [sgn_le, le_sgn, a])
      have ha := all_map (fun c => decide (32 ≤ c) && decide (c ≤ 126)) x.cps.toList
      simp [d_is_text, hl', hc, ha, txB, txtOk, hl]
    · have hl' : ¬ (x.length : Int) ≤ 8 := by omega
      simp [d_is_text, hl', txB, txtOk, hl]
  | _ => first | (simp [d_is_text, txB]; done) | (exfalso; cases n <;> simp [dat] at h)
theorem w_plain_value {s : Srt} (hs : isL s = false) {p : PV} {n : Nat} (h : dat n p = true) (W : Om) : TT.fn i_is_plain_value [eSrt s, p] W = .ok (.val (.bl (plainVB s p))) W := by
  rw [f_is_plain_value, run_eq rfl]
  cases s with
  | link x m r => cases hs
  | num =>
    cases p with
    | int i =>
      by_cases a : -9999 ≤ i <;> simp [d_is_plain_value, exs_cons, eSrt, w_whole (h := h), wholeB, plainVB, a]
    | _ => simp [d_is_plain_value, exs_cons, eSrt, w_whole (h := h), wholeB, plainVB]
  | text =>
    have n1 : (("text" : Str) == ("number" : Str)) = false := str_ne (by decide +kernel)
    cases p <;> simp [d_is_plain_value, exs_cons, eSrt, n1, w_text (h := h), txB, plainVB]
abbrev cBM : Nat := 1
/-! ### moves -/
inductive Mv where
  | add (k n : Str) (s : Srt) (v : Vl) | leave (k n : Str) | call (k n m : Str) | name (k m : Str) | more (k : Str) (fs : List Fld) | less (k : Str)
def eMv : Mv → PV
  | .add k n s v => .tup [.str "add", .str k, .str n, eSrt s, eVl v]
  | .leave k n => .tup [.str "leave", .str k, .str n]
  | .call k n m => .tup [.str "call", .str k, .str n, .str m]
  | .name k m => .tup [.str "name", .str k, .str m]
  | .more k fs => .tup [.str "more", .str k, eFlds fs]
  | .less k => .tup [.str "less", .str k]
def withF (S : Sch) (k : Str) (fs : List Fld) : Sch := S.map fun q => (q.1, if q.1 = k then fs else q.2)
theorem w_with_fields (S : Sch) (hS : S.length ≤ 100) (k : Str) (fs : List Fld) (W : Om) : TT.fn i_with_fields [eSch S, .str k, eFlds fs] W = .ok (.val (eSch (withF S k fs))) W := by
  rw [f_with_fields, run_eq rfl]
  have hc := comp_m S eKnd (fun q => eKnd (q.1, if q.1 = k then fs else q.2)) (T := TT) (e := (.tup [(.idx (.var 3) (.int 0)), (.ite (.cmp .eq (.idx (.var 3) (.int 0)) (.var 1)) (.var 2) (.idx (.var 3) (.int 1)))])) (tg := (.nm 3)) (k := .one) (es := [(.var 0)]) (c := []) (own := [("one", 3)]) (env := [.val (eSch S), .val (.str k), .val (eFlds fs), .un]) (W := W) (by simp) (sz_big (by omega)) (by
    intro q hq
    by_cases e : q.1 = k
    · simp [e, eKnd, sz_big]
    · have e' : (q.1 == k) = false := by simpa using e
      simp [e, e', eKnd, sz_big])
  have he : eSch (withF S k fs) = .tup (S.map fun q => eKnd (q.1, if q.1 = k then fs else q.2)) := by
    unfold withF eSch
    rw [List.map_map]
    rfl
  rw [he]
  simp [d_with_fields, exs_cons, hc]
theorem w_looked (S : Sch) (W : Om) : TT.fn i_looked [eSch S] W = if schB S then .ok (.val (eSch S)) W else .exc cBM W := by
  rw [f_looked, run_eq rfl]
  cases h : schB S <;> simp [d_looked, exs_cons, w_is_schema, h]
theorem w_look_kind {S : Sch} (ok : SchOk S) (k : Str) (W : Om) : TT.fn i_look_kind [eSch S, .str k] W = if k ∈ names S then .ok (.val .non) W else .exc cBM W := by
  rw [f_look_kind, run_eq rfl]
  have hn := in_strs k (names S)
  by_cases h : k ∈ names S
  · simp [d_look_kind, exs_cons, w_kind_names ok, hn, h]
  · simp [d_look_kind, exs_cons, w_kind_names ok, hn, h]
def fnames (S : Sch) (k : Str) : List Str := (fieldsOf S k).map (·.1)
theorem fields_len {S : Sch} (ok : SchOk S) {k : Str} (h : k ∈ names S) : (fieldsOf S k).length ≤ 5 := (ok.fl _ (mem_of_names h)).2
theorem w_look_field {S : Sch} (ok : SchOk S) (k n : Str) (W : Om) : TT.fn i_look_field [eSch S, .str k, .str n] W = if k ∈ names S ∧ n ∈ fnames S k then .ok (.val .non) W else .exc cBM W := by
  rw [f_look_field, run_eq rfl]
  by_cases h : k ∈ names S
  · have h5 := fields_len ok h
    have hc := comp_m (fieldsOf S k) eFld (fun f => .str f.1) (T := TT) (e := (.idx (.var 3) (.int 0))) (tg := (.nm 3)) (k := .one) (es := [(.call i_fields_of [(.var 0), (.var 1)])]) (c := []) (own := [("field", 3)]) (env := [.val (eSch S), .val (.str k), .val (.str n), .un]) (W := W) (by simp [w_fields_of ok h]) (sz_big (by omega)) (by
      intro f hf
      simp)
    have hN : (fieldsOf S k).map (fun f => PV.str f.1) = (fnames S k).map .str := by simp [fnames, Function.comp_def]
    rw [hN] at hc
    have hn := in_strs n (fnames S k)
    by_cases h2 : n ∈ fnames S k
    · simp [d_look_field, exs_cons, w_look_kind ok, h, hc, hn, h2]
    · simp [d_look_field, exs_cons, w_look_kind ok, h, hc, hn, h2]
  · simp [d_look_field, exs_cons, w_look_kind ok, h]
def fvB (s : Srt) (v : Vl) : Bool := match s with
  | .link _ m _ => decide (v = .non) && m
  | s => plainVB s (eVl v)
theorem w_first_value (s : Srt) (v : Vl) (W : Om) : TT.fn i_is_first_value [eSrt s, eVl v] W = .ok (.val (.bl (fvB s v))) W := by
  rw [f_is_first_value, run_eq rfl]
  have hd := dat_vl 5 v
  cases s with
  | num => simp [d_is_first_value, exs_cons, w_is_plain, isL, w_plain_value (s := .num) rfl hd, fvB]
  | text => simp [d_is_first_value, exs_cons, w_is_plain, isL, w_plain_value (s := .text) rfl hd, fvB]
  | link k m r =>
    have e2 : idxV (eSrt (.link k m r)) (.int 2) = some (.bl m) := by simp [eSrt]
    cases v <;> simp [d_is_first_value, exs_cons, w_is_plain, isL, fvB, e2, eVl]
def lkS (S : Sch) : Option Sch := if schB S then some S else none
def oS (o : Option Sch) (W : Om) : Out D.R := match o with
  | none => .exc cBM W
  | some S => .ok (.val (eSch S)) W
theorem w_looked' (S : Sch) (W : Om) : TT.fn i_looked [eSch S] W = oS (lkS S) W := by
  rw [w_looked]
  unfold lkS
  cases schB S <;> rfl
def mvS (S : Sch) : Mv → Option Sch
  | .add k n s v => if k ∈ names S then (if schB (withF S k (fieldsOf S k ++ [(n, s)])) && fvB s v then some (withF S k (fieldsOf S k ++ [(n, s)])) else none) else none
  | .leave k n => if k ∈ names S ∧ n ∈ fnames S k then lkS (withF S k ((fieldsOf S k).filter fun f => !decide (f.1 = n))) else none
  | .call k n m => if k ∈ names S ∧ n ∈ fnames S k then lkS (withF S k ((fieldsOf S k).map fun f => (if f.1 = n then m else f.1, f.2))) else none
  | .name k m => if k ∈ names S then lkS (S.map fun q => (if q.1 = k then m else q.1, q.2.map fun f => (f.1, match f.2 with
      | .link x y r => if x = k then .link m y r else f.2
      | _ => f.2))) else none
  | .more k fs => lkS (S ++ [(k, fs)])
  | .less k => if k ∈ names S then lkS (S.filter fun q => !decide (q.1 = k)) else none
theorem eFlds_cons (fs gs : List Fld) : PV.tup (fs.map eFld ++ gs.map eFld) = eFlds (fs ++ gs) := by
  unfold eFlds
  rw [List.map_append]
theorem w_added {S : Sch} (ok : SchOk S) (k n : Str) (s : Srt) (v : Vl) (W : Om) : TT.fn i_schema_added [eSch S, .str k, .str n, eSrt s, eVl v] W = oS (mvS S (.add k n s v)) W := by
  rw [f_schema_added, run_eq rfl]
  by_cases h : k ∈ names S
  · have h5 := fields_len ok h
    have l4 := ok.l4
    have ha : binOp .add (eFlds (fieldsOf S k)) (.tup [.tup [.str n, eSrt s]]) = some (.val (eFlds (fieldsOf S k ++ [(n, s)]))) := by
      show (if ((fieldsOf S k).map eFld).length + [PV.tup [.str n, eSrt s]].length ≤ sz then some (R.val (.tup ((fieldsOf S k).map eFld ++ [.tup [.str n, eSrt s]]))) else none) = _
      rw [if_pos (sz_big (by simp; omega))]
      congr 2
      exact eFlds_cons (fieldsOf S k) [(n, s)]
    have hw := w_with_fields S (by omega) k (fieldsOf S k ++ [(n, s)]) W
    have hl := w_looked (withF S k (fieldsOf S k ++ [(n, s)])) W
    cases q : schB (withF S k (fieldsOf S k ++ [(n, s)])) with
    | false =>
      rw [q] at hl
      simp [d_schema_added, exs_cons, w_look_kind ok, h, w_fields_of ok h, ha, hw, hl, mvS, q, oS, sz_big]
    | true =>
      rw [q] at hl
      cases q2 : fvB s v <;> simp [d_schema_added, exs_cons, w_look_kind ok, h, w_fields_of ok h, ha, hw, hl, mvS, q, oS, w_first_value, q2, sz_big]
  · simp [d_schema_added, exs_cons, w_look_kind ok, h, mvS, oS]
theorem fm_filter {α : Type} (p : α → Bool) (enc : α → PV) : ∀ l : List α, (l.filterMap fun x => if p x = true then some (enc x) else none) = (l.filter p).map enc
  | [] => rfl
  | x :: l => by
    have ih := fm_filter p enc l
    rw [List.filterMap_cons, List.filter_cons]
    cases h : p x <;> simp [ih]
theorem w_left {S : Sch} (ok : SchOk S) (k n : Str) (W : Om) : TT.fn i_schema_left [eSch S, .str k, .str n] W = oS (mvS S (.leave k n)) W := by
  rw [f_schema_left, run_eq rfl]
  by_cases h : k ∈ names S ∧ n ∈ fnames S k
  · have h5 := fields_len ok h.1
    have l4 := ok.l4
    have hc := comp_fm (fieldsOf S k) eFld (fun f => if (!decide (f.1 = n)) = true then some (eFld f) else none) (T := TT) (e := (.var 3)) (tg := (.nm 3)) (k := .one) (es := [(.call i_fields_of [(.var 0), (.var 1)])]) (c := [(.cmp .ne (.idx (.var 3) (.int 0)) (.var 2))]) (own := [("field", 3)]) (env := [.val (eSch S), .val (.str k), .val (.str n), .un]) (W := W) (by simp [w_fields_of ok h.1]) (sz_big (by omega)) (by
      intro f hf
      by_cases e : f.1 = n
      · simp [e]
      · have e' : (f.1 == n) = false := by simpa using e
        simp [e, e'])
    rw [fm_filter (fun f : Fld => !decide (f.1 = n)) eFld] at hc
    have hw := w_with_fields S (by omega) k ((fieldsOf S k).filter fun f => !decide (f.1 = n)) W
    have hl := w_looked' (withF S k ((fieldsOf S k).filter fun f => !decide (f.1 = n))) W
    have he : PV.tup (((fieldsOf S k).filter fun f => !decide (f.1 = n)).map eFld) = eFlds ((fieldsOf S k).filter fun f => !decide (f.1 = n)) := rfl
    simp only [mvS, if_pos h]
    cases q : lkS (withF S k ((fieldsOf S k).filter fun f => !decide (f.1 = n))) <;> rw [q] at hl <;> simp only [oS] at hl ⊢ <;> simp [d_schema_left, exs_cons, w_look_field ok, h, hc, he, hw, hl]
  · simp [d_schema_left, exs_cons, w_look_field ok, h, mvS, oS]
theorem w_called {S : Sch} (ok : SchOk S) (k n m : Str) (W : Om) : TT.fn i_schema_called [eSch S, .str k, .str n, .str m] W = oS (mvS S (.call k n m)) W := by
  rw [f_schema_called, run_eq rfl]
  by_cases h : k ∈ names S ∧ n ∈ fnames S k
  · have h5 := fields_len ok h.1
    have l4 := ok.l4
    have hc := comp_m (fieldsOf S k) eFld (fun f => eFld (if f.1 = n then m else f.1, f.2)) (T := TT) (e := (.tup [(.ite (.cmp .eq (.idx (.var 5) (.int 0)) (.var 2)) (.var 3) (.idx (.var 5) (.int 0))), (.idx (.var 5) (.int 1))])) (tg := (.nm 5)) (k := .one) (es := [(.call i_fields_of [(.var 0), (.var 1)])]) (c := []) (own := [("field", 5)]) (env := [.val (eSch S), .val (.str k), .val (.str n), .val (.str m), .un, .un]) (W := W) (by simp [w_fields_of ok h.1]) (sz_big (by omega)) (by
      intro f hf
      by_cases e : f.1 = n
      · simp [e, eFld, sz_big]
      · have e' : (f.1 == n) = false := by simpa using e
        simp [e, e', eFld, sz_big])
    have hw := w_with_fields S (by omega) k ((fieldsOf S k).map fun f => (if f.1 = n then m else f.1, f.2)) W
    have hl := w_looked' (withF S k ((fieldsOf S k).map fun f => (if f.1 = n then m else f.1, f.2))) W
    have he : PV.tup ((fieldsOf S k).map fun f => eFld (if f.1 = n then m else f.1, f.2)) = eFlds ((fieldsOf S k).map fun f => (if f.1 = n then m else f.1, f.2)) := by
      unfold eFlds
      rw [List.map_map]
      rfl
    simp only [mvS, if_pos h]
    cases q : lkS (withF S k ((fieldsOf S k).map fun f => (if f.1 = n then m else f.1, f.2))) <;> rw [q] at hl <;> simp only [oS] at hl ⊢ <;> simp [d_schema_called, exs_cons, w_look_field ok, h, hc, he, hw, hl]
  · simp [d_schema_called, exs_cons, w_look_field ok, h, mvS, oS]
/-- a move of one kind's fields -/
def Mv.fs : Mv → Bool
  | .add _ _ _ _ | .leave _ _ | .call _ _ _ => true
  | _ => false
theorem w_moved_schema3 {S : Sch} (ok : SchOk S) {m : Mv} (hm : m.fs = true) (W : Om) : TT.fn i_moved_schema [eSch S, eMv m] W = oS (mvS S m) W := by
  rw [f_moved_schema, run_eq rfl]
  have n1 : (("leave" : Str) == ("add" : Str)) = false := str_ne (by decide +kernel)
  have n2 : (("call" : Str) == ("add" : Str)) = false := str_ne (by decide +kernel)
  have n3 : (("call" : Str) == ("leave" : Str)) = false := str_ne (by decide +kernel)
  cases m with
  | add k n s v =>
    have h := w_added ok k n s v W
    cases q : mvS S (.add k n s v) <;> rw [q] at h <;> simp only [oS] at h ⊢ <;> simp [d_moved_schema, exs_cons, eMv, h]
  | leave k n =>
    have h := w_left ok k n W
    cases q : mvS S (.leave k n) <;> rw [q] at h <;> simp only [oS] at h ⊢ <;> simp [d_moved_schema, exs_cons, eMv, h, n1]
  | call k n m =>
    have h := w_called ok k n m W
    cases q : mvS S (.call k n m) <;> rw [q] at h <;> simp only [oS] at h ⊢ <;> simp [d_moved_schema, exs_cons, eMv, h, n2, n3]
  | _ => cases hm
/-! ### moves of a store -/
theorem itV_zlt {α β : Type} (f : α → PV) (g : β → PV) (l : List α) (m : List β) (h : ∀ x y, slp (ePr f g (x, y)) = false) : itV .zip [.lst (l.map f), .tup (m.map g)] = some ((l.zip m).map (ePr f g)) := by
  show (if (zipF (l.map f) (m.map g)).any slp then none else some (zipF (l.map f) (m.map g))) = _
  rw [zipF_map, if_neg]
  rw [Bool.not_eq_true, List.any_eq_false]
  intro x hx
  obtain ⟨q, _, rfl⟩ := List.mem_map.mp hx
  rw [h q.1 q.2]
  exact Bool.false_ne_true
def Mv.kd : Mv → Str
  | .add k _ _ _ | .leave k _ | .call k _ _ | .name k _ | .more k _ | .less k => k
/-- a kind's fields, a row's values behind a move of its kind -/
def nF : Mv → List Fld → List Fld
  | .add _ n s _, fs => fs ++ [(n, s)]
  | .leave _ n, fs => fs.filter fun f => !decide (f.1 = n)
  | .call _ n m, fs => fs.map fun f => (if f.1 = n then m else f.1, f.2)
  | _, fs => fs
def nV : Mv → List Fld → List Vl → List Vl
  | .add _ _ _ v, _, vs => vs ++ [v]
  | .leave _ n, fs, vs => vs.take (ix n (fs.map (·.1))) ++ vs.drop (ix n (fs.map (·.1)) + 1)
  | _, _, vs => vs
/-- what a move asks of its kind's fields -/
def cF : Mv → List Fld → Prop
  | .add _ _ s v, _ => fvB s v = true
  | .leave _ n, fs => n ∈ fs.map (·.1)
  | .call _ n _, fs => n ∈ fs.map (·.1)
  | _, _ => True
theorem mvS_some {S S' : Sch} {m : Mv} (hm : m.fs = true) : mvS S m = some S' ↔ m.kd ∈ names S ∧ cF m (fieldsOf S m.kd) ∧ schB (withF S m.kd (nF m (fieldsOf S m.kd))) = true ∧ S' = withF S m.kd (nF m (fieldsOf S m.kd)) := by
  cases m with
  | add k n s v =>
    simp only [mvS, Mv.kd, nF, cF]
    by_cases h : k ∈ names S
    · rw [if_pos h]
      cases h1 : schB (withF S k (fieldsOf S k ++ [(n, s)])) <;> cases h2 : fvB s v <;> simp [h, eq_comm]
    · simp [h]
  | leave k n =>
    simp only [mvS, Mv.kd, nF, cF, lkS]
    by_cases h : k ∈ names S ∧ n ∈ fnames S k
    · rw [if_pos h]
      cases h1 : schB (withF S k ((fieldsOf S k).filter fun f => !decide (f.1 = n)))
      · simp
      · simp only [if_true, Option.some.injEq, true_and]
        exact ⟨fun e => ⟨h.1, h.2, e.symm⟩, fun e => e.2.2.symm⟩
    · rw [if_neg h]
      constructor
      · intro e; cases e
      · intro e; exact absurd ⟨e.1, e.2.1⟩ h
  | call k n m =>
    simp only [mvS, Mv.kd, nF, cF, lkS]
    by_cases h : k ∈ names S ∧ n ∈ fnames S k
    · rw [if_pos h]
      cases h1 : schB (withF S k ((fieldsOf S k).map fun f => (if f.1 = n then m else f.1, f.2)))
      · simp
      · simp only [if_true, Option.some.injEq, true_and]
        exact ⟨fun e => ⟨h.1, h.2, e.symm⟩, fun e => e.2.2.symm⟩
    · rw [if_neg h]
      constructor
      · intro e; cases e
      · intro e; exact absurd ⟨e.1, e.2.1⟩ h
  | _ => cases hm
theorem w_place_of {S : Sch} (ok : SchOk S) {k n : Str} (h : k ∈ names S) (hn : n ∈ fnames S k) (W : Om) : TT.fn i_place_of [eSch S, .str k, .str n] W = .ok (.val (.int (ix n (fnames S k) : Nat))) W := by
  rw [f_place_of, run_eq rfl]
  have h5 := fields_len ok h
  have hc := comp_m (fieldsOf S k) eFld (fun f => .str f.1) (T := TT) (e := (.idx (.var 3) (.int 0))) (tg := (.nm 3)) (k := .one) (es := [(.call i_fields_of [(.var 0), (.var 1)])]) (c := []) (own := [("one", 3)]) (env := [.val (eSch S), .val (.str k), .val (.str n), .un]) (W := W) (by simp [w_fields_of ok h]) (sz_big (by omega)) (by
    intro f hf
    simp)
  have hN : (fieldsOf S k).map (fun f => PV.str f.1) = (fnames S k).map .str := by simp [fnames, Function.comp_def]
  rw [hN] at hc
  simp [d_place_of, exs_cons, hc, m_index hn]
theorem add_vls (a b : List Vl) (h : a.length + b.length ≤ 1000) : binOp .add (eVls a) (eVls b) = some (.val (eVls (a ++ b))) := by
  show (if (a.map eVl).length + (b.map eVl).length ≤ sz then some (R.val (.tup (a.map eVl ++ b.map eVl))) else none) = _
  rw [if_pos (sz_big (by simp; omega)), ← List.map_append]
  rfl
theorem hi_vls (a : List Vl) (n : Nat) : sliceV (eVls a) none (some (n : Int)) = some (.val (eVls (a.take n))) := by
  show some (R.val (.tup (cutP (a.map eVl) none (some (n : Int))))) = _
  rw [cut_hi, ← List.map_take]
  rfl
theorem lo_vls (a : List Vl) (n : Nat) : sliceV (eVls a) (some (n : Int)) none = some (.val (eVls (a.drop n))) := by
  show some (R.val (.tup (cutP (a.map eVl) (some (n : Int)) none))) = _
  rw [cut_lo, ← List.map_drop]
  rfl
/-- values behind a move, of any kind -/
def mvV (S : Sch) (k : Str) (m : Mv) (vs : List Vl) : List Vl := if m.kd = k then nV m (fieldsOf S k) vs else vs
theorem w_moved_values {S : Sch} (ok : SchOk S) {m : Mv} (hm : m.fs = true) (hc : cF m (fieldsOf S m.kd)) (hk : m.kd ∈ names S) (k : Str) {vs : List Vl} (hv : vs.length ≤ 500) (W : Om) : TT.fn i_moved_values [eSch S, .str k, eVls vs, eMv m] W = .ok (.val (eVls (mvV S k m vs))) W := by
  rw [f_moved_values, run_eq rfl]
  have n1 : (("leave" : Str) == ("add" : Str)) = false := str_ne (by decide +kernel)
  have n2 : (("call" : Str) == ("add" : Str)) = false := str_ne (by decide +kernel)
  have n3 : (("call" : Str) == ("leave" : Str)) = false := str_ne (by decide +kernel)
  have n4 : (("add" : Str) == ("leave" : Str)) = false := str_ne (by decide +kernel)
  cases m with
  | add k' n s v =>
    have ha := add_vls vs [v] (by simp; omega)
    have e1 : eVls [v] = .tup [eVl v] := rfl
    rw [e1] at ha
    by_cases e : k' = k
    · subst e
      simp [d_moved_values, exs_cons, eMv, mvV, Mv.kd, nV, ha, sz_big]
    · have e' : (k' == k) = false := by simpa using e
      simp [d_moved_values, exs_cons, eMv, mvV, Mv.kd, e, e', n4]
  | leave k' n =>
    by_cases e : k' = k
    · subst e
      simp only [cF, Mv.kd] at hc hk
      have hp := w_place_of ok hk (n := n) hc W
      have h1 := hi_vls vs (ix n (fnames S k'))
      have h2 := lo_vls vs (ix n (fnames S k') + 1)
      rw [Int.natCast_add] at h2
      have ha := add_vls (vs.take (ix n (fnames S k'))) (vs.drop (ix n (fnames S k') + 1)) (by rw [List.length_take, List.length_drop]; omega)
      have e2 : nV (.leave k' n) (fieldsOf S k') vs = vs.take (ix n (fnames S k')) ++ vs.drop (ix n (fnames S k') + 1) := rfl
      simp only [mvV, Mv.kd, if_true, e2]
      simp [d_moved_values, exs_cons, eMv, n1, hp, h1, ha]
      simp at h2
      simp [h2, ha]
    · have e' : (k' == k) = false := by simpa using e
      simp [d_moved_values, exs_cons, eMv, mvV, Mv.kd, e, e', n1]
  | call k' n m =>
    have e3 : mvV S k (.call k' n m) vs = vs := by unfold mvV; split <;> rfl
    simp [d_moved_values, exs_cons, eMv, n2, n3, e3]
  | _ => cases hm
def mvH (S : Sch) (k : Str) (m : Mv) (s : Shf) : Shf := (s.1, s.2.map fun r => (r.1, r.2.1, mvV S k m r.2.2))
theorem w_moved_shelf {S : Sch} (ok : SchOk S) {m : Mv} (hm : m.fs = true) (hc : cF m (fieldsOf S m.kd)) (hk : m.kd ∈ names S) (k : Str) {s : Shf} (hs : s.2.length ≤ 500) (hv : ∀ r ∈ s.2, r.2.2.length ≤ 500) (W : Om) : TT.fn i_moved_shelf [eSch S, .str k, eShf s, eMv m] W = .ok (.val (eShf (mvH S k m s))) W := by
  rw [f_moved_shelf, run_eq rfl]
  have hcm := comp_m s.2 eRow (fun r => eRow (r.1, r.2.1, mvV S k m r.2.2)) (T := TT) (e := (.tup [(.idx (.var 4) (.int 0)), (.idx (.var 4) (.int 1)), (.call i_moved_values [(.var 0), (.var 1), (.idx (.var 4) (.int 2)), (.var 3)])])) (tg := (.nm 4)) (k := .one) (es := [(.idx (.var 2) (.int 1))]) (c := []) (own := [("row", 4)]) (env := [.val (eSch S), .val (.str k), .val (eShf s), .val (eMv m), .un]) (W := W) (by simp) (sz_big (by omega)) (by
    intro r hr
    simp [w_moved_values ok hm hc hk k (hv r hr), eRow, sz_big])
  have he : eShf (mvH S k m s) = .tup [.int s.1, .tup (s.2.map fun r => eRow (r.1, r.2.1, mvV S k m r.2.2))] := by
    unfold mvH eShf eRows
    rw [List.map_map]
    rfl
  rw [he]
  simp [d_moved_shelf, exs_cons, hcm, sz_big]
def mvT (S : Sch) (m : Mv) (st : Sto) : Sto := ((names S).zip st).map fun p => mvH S p.1 m p.2
theorem w_moved_store {S S' : Sch} {st : Sto} (ok : SchOk S) {m : Mv} (hm : m.fs = true) (hl : st.length = S.length) (hv : ∀ s ∈ st, s.2.length ≤ 500 ∧ ∀ r ∈ s.2, r.2.2.length ≤ 500) (h : mvS S m = some S') (W : Om) : TT.fn i_moved_store [eSch S, eSto st, eMv m] W = .ok (.val (eSto (mvT S m st))) W := by
  rw [f_moved_store, run_eq rfl]
  obtain ⟨hk, hc, _, _⟩ := (mvS_some hm).mp h
  have hw := w_moved_schema3 ok hm W
  rw [h] at hw
  have l4 := ok.l4
  have hln : (names S).length = S.length := List.length_map _
  have hnl : idxV (eMv m) (.int 0) = some (.str "add") ∨ idxV (eMv m) (.int 0) = some (.str "leave") ∨ idxV (eMv m) (.int 0) = some (.str "call") := by
    cases m with
    | add => exact .inl (by simp [eMv])
    | leave => exact .inr (.inl (by simp [eMv]))
    | call => exact .inr (.inr (by simp [eMv]))
    | _ => cases hm
  obtain ⟨x, hx, x1, x2⟩ : ∃ x : Str, idxV (eMv m) (.int 0) = some (.str x) ∧ (x == ("less" : Str)) = false ∧ (x == ("more" : Str)) = false := by
    rcases hnl with e | e | e
    · exact ⟨_, e, str_ne (by decide +kernel), str_ne (by decide +kernel)⟩
    · exact ⟨_, e, str_ne (by decide +kernel), str_ne (by decide +kernel)⟩
    · exact ⟨_, e, str_ne (by decide +kernel), str_ne (by decide +kernel)⟩
  have hz := itV_zlt PV.str eShf (names S) st fun x y => rfl
  have hz' : itV .zip [.lst ((names S).map .str), eSto st] = _ := hz
  simp only [d_moved_store, List.map_cons, List.map_nil, List.cons_append, List.nil_append, List.replicate]
  rw [exs_nx (env' := [.val (eSch S), .val (eSto st), .val (eMv m), .un, .un, .un]) (W' := W) (by simp [hw, oS])]
  rw [exs_nx (env' := [.val (eSch S), .val (eSto st), .val (eMv m), .own (.l []), .un, .un]) (W' := W) (by simp [sz_big])]
  have hf := for_app (T := TT) 3 1000 ((names S).zip st) (ePr PV.str eShf) (fun p => [eShf (mvH S p.1 m p.2)]) [] (tg := (.tp [(.nm 4), (.nm 5)])) (k := .zip) (es := [(.call i_kind_names [(.var 0)]), (.var 1)]) (body := [(.ife (.or [(.cmp .ne (.idx (.var 2) (.int 0)) (.str "less")), (.cmp .ne (.idx (.var 2) (.int 1)) (.var 4))]) [(.app 3 (.call i_moved_shelf [(.var 0), (.var 4), (.var 5), (.var 2)]))] [])]) (kil := [4, 5])
    (env := [.val (eSch S), .val (eSto st), .val (eMv m), .own (.l []), .un, .un]) (W := W) rfl (by simp [w_kind_names ok, hz']) (by
      rw [List.nil_append, ← List.map_eq_flatMap, List.length_map, List.length_zip]
      omega) (by
    rintro acc ⟨k, s⟩ hp hN
    have hs := hv s (List.of_mem_zip hp).2
    have hq := w_moved_shelf ok hm hc hk k hs.1 hs.2 W
    have hzz : acc.length < sz := sz_lt (by simp at hN; omega)
    simp [hx, x1, hq, xApp_app, hzz])
  have e1 : (((names S).zip st).flatMap fun p => [eShf (mvH S p.1 m p.2)]) = (mvT S m st).map eShf := by
    unfold mvT
    rw [List.map_map, ← List.map_eq_flatMap]
    rfl
  rw [e1, List.nil_append] at hf
  rw [exs_nx hf]
  simp [exs_cons, hx, x2, eSto]
/-! ### a move is drawn -/
theorem kdk_knd {k : Knd} (h : k.2 ≠ []) : kdk (eKnd k) = true := by
  obtain ⟨x, fs⟩ := k
  cases fs with
  | nil => exact absurd rfl h
  | cons f fs =>
    show ((eFld f :: fs.map eFld).all fdk) = true
    rw [List.all_eq_true]
    intro y hy
    have hy' : y ∈ (f :: fs).map eFld := hy
    obtain ⟨g, _, rfl⟩ := List.mem_map.mp hy'
    rfl
theorem slk_sch {S : Sch} (ok : SchOk S) : slk (S.map eKnd) = true := by
  have key : ∀ T : Sch, T ≠ [] → (∀ k ∈ T, k.2 ≠ []) → slk (T.map eKnd) = true := fun T h0 h => by
    cases T with
    | nil => exact absurd rfl h0
    | cons k T =>
      show ((eKnd k :: T.map eKnd).all kdk) = true
      rw [List.all_eq_true]
      intro y hy
      have hy' : y ∈ (k :: T).map eKnd := hy
      obtain ⟨g, hg, rfl⟩ := List.mem_map.mp hy'
      exact kdk_knd (h g hg)
  refine key S (fun e => ?_) fun k hk e => ?_
  · have := ok.l1
    rw [e] at this
    simp at this
  · have := (ok.fl k hk).1
    rw [e] at this
    simp at this
theorem pairs_sch : ∀ S : Sch, pairsK (S.map eKnd) = some (ksA S, S.map fun p => eFlds p.2)
  | [] => rfl
  | k :: S => by
    show (match toKey (.str k.1), pairsK (S.map eKnd) with
      | some q, some (ks, vs) => some (q :: ks, eFlds k.2 :: vs)
      | _, _ => none) = _
    rw [pairs_sch S]
    rfl
theorem mrg_app : ∀ (ks : List Key) (vs : List PV) (a : List Key) (b : List PV), (a ++ ks).Nodup → ks.length = vs.length → mrgP a b ks vs = .k (a ++ ks) (b ++ vs)
  | [], [], a, b, _, _ => by simp [mrgP]
  | k :: ks, v :: vs, a, b, nd, hl => by
    have hk : hasK a k = false := by
      unfold hasK
      rw [List.any_eq_false]
      intro x hx
      have := (List.nodup_append.mp nd).2.2 x hx k (by simp)
      simpa using this
    simp only [mrgP, putKs, putVs, hk, Bool.false_eq_true, if_false]
    rw [mrg_app ks vs (a ++ [k]) (b ++ [v]) (by simpa using nd) (by simpa using hl)]
    simp
  | [], _ :: _, _, _, _, h => by simp at h
  | _ :: _, [], _, _, _, h => by simp at h
theorem dict_sch {S : Sch} (ok : SchOk S) : bltV .dict [eSch S] = some (.fre (cDct eFlds S)) := by
  show (if slk (S.map eKnd) then match pairsK (S.map eKnd) with
    | some (ks, vs) => some (R.fre (mrgP [] [] ks vs))
    | none => none
    else none) = _
  rw [if_pos (slk_sch ok), pairs_sch]
  show some (R.fre (mrgP [] [] (ksA S) (S.map fun p => eFlds p.2))) = _
  rw [mrg_app _ _ [] [] ?_ (by simp [ksA])]
  · rfl
  · have nd := ok.nd
    unfold names at nd
    rw [List.nil_append]
    unfold ksA
    have : (S.map fun p => (Sum.inr p.1 : Key)) = (S.map (·.1)).map Sum.inr := by simp
    rw [this]
    exact List.Pairwise.map _ (fun a b hab e => hab (Sum.inr.inj e)) nd
theorem w_new_name {sv : PV} {ns : List Int} (hs : IsScr sv ns) {a : Int} (ha : 0 ≤ a) (N : List Str) (hN : N.length ≤ 100) (W : Om) : ∃ x : Str, TT.fn i__law_new_name [sv, .int a, .lst (N.map .str)] W = .ok (.val (.str x)) W := by
  rw [f__law_new_name, run_eq rfl]
  have p := w_pk hs (k := a) (m := 9 + (N.length : Nat)) ha (by omega) W
  have b := pk_lt ns a (m := 9 + (N.length : Nat)) (by omega)
  generalize hq : pk ns a (9 + (N.length : Nat)) = q at *
  have hl : ∃ x : Str, atI (.str "new" :: .str "n" :: .str "abcdef" :: .str "b" :: .str "y" :: .str "w" :: .str "abcdefg" :: .str "N" :: .str "" :: N.map PV.str) (q : Int) = some (.str x) := by
    rw [D.atI_nat]
    have hq2 : q < (([("new" : Str), "n", "abcdef", "b", "y", "w", "abcdefg", "N", ""] ++ N)).length := by simp; omega
    refine ⟨(([("new" : Str), "n", "abcdef", "b", "y", "w", "abcdefg", "N", ""] ++ N))[q], ?_⟩
    have : (([("new" : Str), "n", "abcdef", "b", "y", "w", "abcdefg", "N", ""] ++ N).map PV.str)[q]? = some (.str (([("new" : Str), "n", "abcdef", "b", "y", "w", "abcdefg", "N", ""] ++ N))[q]) := by
      rw [List.getElem?_map, List.getElem?_eq_getElem hq2]
      rfl
    exact this
  obtain ⟨x, hl⟩ := hl
  refine ⟨x, ?_⟩
  have hz : (9 : Nat) + N.length ≤ sz := sz_big (by omega)
  simp [d__law_new_name, p, sz_big, hz, hl]
/-- names, three times, and none: one of them -/
theorem one_of (N : List Str) (q : Nat) (h : q < 3 * N.length + 1) : ∃ x : Str, atI (N.map PV.str ++ (N.map PV.str ++ (N.map PV.str ++ [.str "none"]))) (q : Int) = some (.str x) := by
  rw [D.atI_nat]
  have hq2 : q < (N ++ (N ++ (N ++ [("none" : Str)]))).length := by simp; omega
  refine ⟨(N ++ (N ++ (N ++ [("none" : Str)])))[q], ?_⟩
  have : ((N ++ (N ++ (N ++ [("none" : Str)]))).map PV.str)[q]? = some (.str (N ++ (N ++ (N ++ [("none" : Str)])))[q]) := by
    rw [List.getElem?_map, List.getElem?_eq_getElem hq2]
    rfl
  rw [← this]
  simp
def takenOf (S : Sch) (k : Str) : List Str := ((getA S k).getD []).map (·.1)
theorem getA_len {S : Sch} (ok : SchOk S) (k : Str) : ((getA S k).getD []).length ≤ 5 := by
  cases h : getA S k with
  | none => simp
  | some fs =>
    have key : ∀ T : Sch, getA T k = some fs → ∃ q ∈ T, q.2 = fs := fun T => by
      induction T with
      | nil => intro e; cases e
      | cons q T ih =>
        intro e
        unfold getA at e
        split at e
        · cases e
          exact ⟨q, by simp, rfl⟩
        · obtain ⟨p, hp, e2⟩ := ih e
          exact ⟨p, by simp [hp], e2⟩
    obtain ⟨q, hq, e⟩ := key S h
    have := (ok.fl q hq).2
    simpa [e] using this
theorem get_sch (S : Sch) (k : Str) : methV .get (eDct eFlds S) [.str k, .tup []] = some (.val (eFlds ((getA S k).getD []))) := by
  show (match dget (eDct eFlds S) (.str k) with
    | some o => if flatP (.tup []) then some (R.val (o.getD (.tup []))) else none
    | none => none) = _
  rw [dget_A]
  cases getA S k <;> rfl
def qr : Nat → Str
  | 0 => "q"
  | 1 => "r"
  | _ => "p"
theorem qr_ix {j : Nat} (h : j < 3) : idxV (.str "qrp") (.int (j : Int)) = some (.str (qr j)) := by
  match j, h with
  | 0, _ => rfl
  | 1, _ => rfl
  | 2, _ => rfl
theorem w_move {sv : PV} {ns : List Int} (hs : IsScr sv ns) {a : Int} (ha : 0 ≤ a) {S : Sch} (ok : SchOk S) (W : Om) : ∃ m : Mv, TT.fn i__law_move [sv, .int a, eSch S] W = .ok (.val (eMv m)) W := by
  rw [f__law_move, run_eq rfl]
  simp only [d__law_move, List.map_cons, List.map_nil, List.cons_append, List.nil_append, List.replicate]
  have l4 := ok.l4
  have l1 := ok.l1
  have hln : (names S).length = S.length := List.length_map _
  have hN : names S ≠ [] := fun e => by rw [e] at hln; simp at hln; omega
  have hc1 := comp_m S eKnd (fun q => .str q.1) (T := TT) (e := (.idx (.var 4) (.int 0))) (tg := (.nm 4)) (k := .one) (es := [(.var 2)]) (c := []) (own := [("_law_kind", 4)]) (env := [.val sv, .val (.int a), .val (eSch S), .un, .un, .un, .un, .un, .un, .un, .un, .un, .un]) (W := W) (by simp) (sz_big (by omega)) (by intro q hq; simp)
  have hN1 : S.map (fun q => PV.str q.1) = (names S).map .str := by simp [names, Function.comp_def]
  rw [hN1] at hc1
  rw [exs_nx (env' := [.val sv, .val (.int a), .val (eSch S), .val (.lst ((names S).map .str)), .un, .un, .un, .un, .un, .un, .un, .un, .un]) (W' := W) (by simp [hc1])]
  have p1 := w_pk hs (k := a) (m := 3 * ((names S).length : Nat) + 1) ha (by omega) W
  have b1 := pk_lt ns a (m := 3 * ((names S).length : Nat) + 1) (by omega)
  generalize pk ns a (3 * ((names S).length : Nat) + 1) = q1 at *
  obtain ⟨kind, hk⟩ := one_of (names S) q1 (by omega)
  have hm3 := b_mul (a := 3) (b := ((names S).length : Nat)) (.inl (by decide))
  have hz1 : (names S).length + (names S).length ≤ sz := sz_big (by omega)
  have hz2 : (names S).length + ((names S).length + (names S).length) ≤ sz := sz_big (by omega)
  have hz3 : (names S).length + ((names S).length + ((names S).length + 1)) ≤ sz := sz_big (by omega)
  have hz2' : (names S).length + (names S).length + (names S).length ≤ sz := sz_big (by omega)
  have hz4 : (names S).length + ((names S).length + (names S).length) + 1 ≤ sz := sz_big (by omega)
  have hz3' : (names S).length + (names S).length + (names S).length + 1 ≤ sz := sz_big (by omega)
  rw [exs_nx (env' := [.val sv, .val (.int a), .val (eSch S), .val (.lst ((names S).map .str)), .val (.str kind), .un, .un, .un, .un, .un, .un, .un, .un]) (W' := W) (by simp [hm3, p1, sz_big, hz1, hz2, hz3, hz2', hz3', hz4, hk])]
  have hf5 := getA_len ok kind
  generalize hfs : (getA S kind).getD [] = fs at hf5
  have hg := get_sch S kind
  have hty : tyM .get (eDct eFlds S) = true := rfl
  rw [hfs] at hg
  have hc2 := comp_m fs eFld (fun f => .str f.1) (T := TT) (e := (.idx (.var 11) (.int 0))) (tg := (.nm 11)) (k := .one) (es := [(.meth .get (.blt .dict [(.var 2)]) [(.var 4), (.tup [])])]) (c := []) (own := [("_law_field", 11)]) (env := [.val sv, .val (.int a), .val (eSch S), .val (.lst ((names S).map .str)), .val (.str kind), .un, .un, .un, .un, .un, .un, .un, .un]) (W := W) (by simp [dict_sch ok, hg, hty, sz_big]) (sz_big (by omega)) (by intro f hf; simp)
  have hT : fs.map (fun f => PV.str f.1) = (fs.map (·.1)).map .str := by simp [Function.comp_def]
  rw [hT] at hc2
  generalize hM : fs.map (·.1) = M at hc2
  have hMl : M.length ≤ 5 := by rw [← hM, List.length_map]; exact hf5
  rw [exs_nx (env' := [.val sv, .val (.int a), .val (eSch S), .val (.lst ((names S).map .str)), .val (.str kind), .val (.lst (M.map .str)), .un, .un, .un, .un, .un, .un, .un]) (W' := W) (by simp [hc2])]
  have p2 := w_pk hs (k := a + 1) (m := 3 * (M.length : Nat) + 1) (by omega) (by omega) W
  have b2 := pk_lt ns (a + 1) (m := 3 * (M.length : Nat) + 1) (by omega)
  generalize pk ns (a + 1) (3 * (M.length : Nat) + 1) = q2 at *
  obtain ⟨name, hn⟩ := one_of M q2 (by omega)
  have hm4 := b_mul (a := 3) (b := (M.length : Nat)) (.inl (by decide))
  have hy1 : M.length + M.length ≤ sz := sz_big (by omega)
  have hy2 : M.length + (M.length + M.length) ≤ sz := sz_big (by omega)
  have hy3 : M.length + (M.length + (M.length + 1)) ≤ sz := sz_big (by omega)
  have hy2' : M.length + M.length + M.length ≤ sz := sz_big (by omega)
  have hy4 : M.length + (M.length + M.length) + 1 ≤ sz := sz_big (by omega)
  have hy3' : M.length + M.length + M.length + 1 ≤ sz := sz_big (by omega)
  rw [exs_nx (env' := [.val sv, .val (.int a), .val (eSch S), .val (.lst ((names S).map .str)), .val (.str kind), .val (.lst (M.map .str)), .val (.str name), .un, .un, .un, .un, .un, .un]) (W' := W) (by simp [hm4, p2, sz_big, hy1, hy2, hy3, hy2', hy3', hy4, hn])]
  have p3 := w_pk hs (k := a + 2) (m := 8) (by omega) (by decide) W
  have b3 := pk_lt ns (a + 2) (m := 8) (by decide)
  generalize pk ns (a + 2) 8 = q3 at *
  rw [exs_nx (env' := [.val sv, .val (.int a), .val (eSch S), .val (.lst ((names S).map .str)), .val (.str kind), .val (.lst (M.map .str)), .val (.str name), .val (.int q3), .un, .un, .un, .un, .un]) (W' := W) (by simp [p3])]
  obtain ⟨x1, h1⟩ := w_new_name hs (a := a + 17) (by omega) M (by omega) W
  obtain ⟨x2, h2⟩ := w_new_name hs (a := a + 17) (by omega) (names S) (by omega) W
  by_cases c1 : (q3 : Int) < 2
  · have hsr := w_sort hs (a := a + 3) (by omega) hN W
    generalize sortF ns (a + 3) (names S) = s at *
    have p6 := w_pk hs (k := a + 18) (m := 6) (by omega) (by decide) W
    generalize pk ns (a + 18) 6 = q6 at *
    have p7 := w_pk hs (k := a + 19) (m := 4) (by omega) (by decide) W
    have b7 := pk_lt ns (a + 19) (m := 4) (by decide)
    generalize pk ns (a + 19) 4 = q7 at *
    have hv : ∃ v : Vl, ev TT (.ite (.cmp .ne (.idx (.var 8) (.int 0)) (.str "link")) (.call i__law_plain [(.var 0), (.op .add (.var 1) (.int 8)), (.var 8)]) .non) [.val sv, .val (.int a), .val (eSch S), .val (.lst ((names S).map .str)), .val (.str kind), .val (.lst (M.map .str)), .val (.str name), .val (.int q3), .val (eSrt s), .un, .un, .un, .un] W = .ok (.val (eVl v)) W := by
      cases s with
      | num =>
        obtain ⟨v, h, _⟩ := w_plain hs (a := a + 8) (by omega) (s := .num) (.inl rfl) [] W
        have e0 : idxV (eSrt .num) (.int 0) = some (.str "n") := rfl
        have n1 : (("n" : Str) == ("link" : Str)) = false := str_ne (by decide +kernel)
        exact ⟨v, by simp [e0, n1, h]⟩
      | text =>
        obtain ⟨v, h, _⟩ := w_plain hs (a := a + 8) (by omega) (s := .text) (.inr rfl) [] W
        have e0 : idxV (eSrt .text) (.int 0) = some (.str "t") := rfl
        have n1 : (("t" : Str) == ("link" : Str)) = false := str_ne (by decide +kernel)
        exact ⟨v, by simp [e0, n1, h]⟩
      | link x m r =>
        have e0 : idxV (eSrt (.link x m r)) (.int 0) = some (.str "link") := by simp [eSrt]
        exact ⟨.non, by simp [e0, eVl]⟩
    obtain ⟨v, hv⟩ := hv
    have hw : ∃ w : Vl, atI [PV.non, .int 10000, .str "123456789", .int 1] (q7 : Int) = some (eVl w) := by
      rw [D.atI_nat]
      match q7, b7 with
      | 0, _ => exact ⟨.non, rfl⟩
      | 1, _ => exact ⟨.int 10000, rfl⟩
      | 2, _ => exact ⟨.str "123456789", rfl⟩
      | 3, _ => exact ⟨.int 1, rfl⟩
      | n + 4, b => exact absurd b (by omega)
    obtain ⟨w, hw⟩ := hw
    cases hq : ((q6 : Int) == 0) with
    | false => exact ⟨.add kind x1 s v, by simp [exs_cons, c1, hsr, hv, p6, hq, h1, sz_big, eMv]⟩
    | true => exact ⟨.add kind x1 s w, by simp [exs_cons, c1, hsr, hv, p6, hq, p7, hw, h1, sz_big, eMv]⟩
  · by_cases c2 : (q3 : Int) < 4
    · exact ⟨.leave kind name, by simp [exs_cons, c1, c2, sz_big, eMv]⟩
    · cases c3 : ((q3 : Int) == 4) with
      | true => exact ⟨.call kind name x1, by simp [exs_cons, c1, c2, c3, h1, sz_big, eMv]⟩
      | false =>
        cases c4 : ((q3 : Int) == 5) with
        | true => exact ⟨.name kind x2, by simp [exs_cons, c1, c2, c3, c4, h2, sz_big, eMv]⟩
        | false =>
          cases c5 : ((q3 : Int) == 6) with
          | true =>
            have p8 := w_pk hs (k := a + 3) (m := 3) (by omega) (by decide) W
            have b8 := pk_lt ns (a + 3) (m := 3) (by decide)
            generalize pk ns (a + 3) 3 = q8 at *
            have hcs := comp_m (List.range (1 + q8)) eNat (fun j => eFld (qr j, sortF ns (a + 4 + 4 * (j : Int)) (names S))) (T := TT) (e := (.tup [(.idx (.str "qrp") (.var 12)), (.call i__law_sort [(.var 0), (.op .add (.op .add (.var 1) (.int 4)) (.op .mul (.int 4) (.var 12))), (.var 3)])])) (tg := (.nm 12)) (k := .rng) (es := [(.op .add (.int 1) (.call i__law_pick [(.var 0), (.op .add (.var 1) (.int 3)), (.int 3)]))]) (c := []) (own := [("_law_k", 12)])
              (env := [.val sv, .val (.int a), .val (eSch S), .val (.lst ((names S).map .str)), .val (.str kind), .val (.lst (M.map .str)), .val (.str name), .val (.int q3), .un, .un, .un, .un, .un]) (W := W) (by simp [p8]; rw [itV_rng (m := 1 + q8) (by omega) (by omega)]; rfl) (sz_big (by simp; omega)) (by
              intro j hj
              have hj3 : j < 3 := by have := List.mem_range.mp hj; omega
              have hm5 := b_mul (a := 4) (b := (j : Int)) (.inl (by decide))
              have hsr := w_sort hs (a := a + 4 + 4 * (j : Int)) (by omega) hN W
              have hi := qr_ix hj3
              simp [eNat, hm5, hsr, hi, sz_big, eFld])
            have he : PV.tup ((List.range (1 + q8)).map fun j => eFld (qr j, sortF ns (a + 4 + 4 * (j : Int)) (names S))) = eFlds ((List.range (1 + q8)).map fun (j : Nat) => (qr j, sortF ns (a + 4 + 4 * (j : Int)) (names S))) := by
              unfold eFlds
              rw [List.map_map]
              rfl
            exact ⟨.more x2 ((List.range (1 + q8)).map fun (j : Nat) => (qr j, sortF ns (a + 4 + 4 * (j : Int)) (names S))), by
              simp [exs_cons, c1, c2, c3, c4, c5, hcs, he, h2, sz_big, eMv]⟩
          | false => exact ⟨.less kind, by simp [exs_cons, c1, c2, c3, c4, c5, sz_big, eMv]⟩
/-! ### moves of unlike kinds -/
structure Gd (S : Sch) (m : Mv) : Prop where
  fs : m.fs = true
  kd : m.kd ∈ names S
  cf : cF m (fieldsOf S m.kd)
  sb : schB (withF S m.kd (nF m (fieldsOf S m.kd))) = true
def okF (N : List Str) (k : Knd) : Prop := kdB k = true ∧ k.2.all (ldB N) = true
theorem schB_iff {T : Sch} : schB T = true ↔ 1 ≤ T.length ∧ T.length ≤ 4 ∧ (names T).Nodup ∧ ∀ k ∈ T, okF (names T) k := by
  unfold schB okF
  simp only [Bool.and_eq_true, decide_eq_true_eq, List.all_eq_true]
  constructor
  · rintro ⟨h1, h2, h3, h4, h5⟩
    exact ⟨h1, h2, h4, fun k hk => ⟨h3 k hk, h5 k hk⟩⟩
  · rintro ⟨h1, h2, h3, h4⟩
    exact ⟨h1, h2, fun k hk => (h4 k hk).1, h3, fun k hk => (h4 k hk).2⟩
theorem schB_ok {T : Sch} (h : schB T = true) : SchOk T := by
  obtain ⟨h1, h4, nd, ho⟩ := schB_iff.mp h
  refine ⟨nd, h1, h4, fun k hk => ?_, fun k hk f hf x m r e => ?_⟩
  · have := (ho k hk).1
    unfold kdB at this
    simp only [Bool.and_eq_true, decide_eq_true_eq] at this
    exact ⟨this.2.1, this.2.2.1⟩
  · have := List.all_eq_true.mp (ho k hk).2 f hf
    unfold ldB at this
    rw [e] at this
    exact of_decide_eq_true this
theorem names_withF (S : Sch) (k : Str) (fs : List Fld) : names (withF S k fs) = names S := by
  unfold names withF
  rw [List.map_map]
  rfl
theorem mem_withF {S : Sch} {k : Str} {fs : List Fld} {q : Knd} : q ∈ withF S k fs ↔ ∃ p ∈ S, (p.1, if p.1 = k then fs else p.2) = q := by
  unfold withF
  rw [List.mem_map]
def apF (ms : List Mv) (k : Str) (fs : List Fld) : List Fld := match ms.find? fun m => decide (m.kd = k) with
  | some m => nF m fs
  | none => fs
def apH (ms : List Mv) (k : Str) (fs : List Fld) (s : Shf) : Shf := match ms.find? fun m => decide (m.kd = k) with
  | some m => (s.1, s.2.map fun r => (r.1, r.2.1, nV m fs r.2.2))
  | none => s
def finS (S : Sch) (ms : List Mv) : Sch := S.map fun q => (q.1, apF ms q.1 q.2)
def finT (S : Sch) (st : Sto) (ms : List Mv) : Sto := (S.zip st).map fun p => apH ms p.1.1 p.1.2 p.2
theorem names_finS (S : Sch) (ms : List Mv) : names (finS S ms) = names S := by
  unfold names finS
  rw [List.map_map]
  rfl
theorem find_none {ms : List Mv} {k : Str} (h : k ∉ ms.map Mv.kd) : (ms.find? fun m => decide (m.kd = k)) = none := by
  rw [List.find?_eq_none]
  intro m hm e
  exact h (List.mem_map.mpr ⟨m, hm, of_decide_eq_true e⟩)
theorem find_one {ms : List Mv} {m : Mv} (nd : (ms.map Mv.kd).Nodup) (hm : m ∈ ms) : (ms.find? fun x => decide (x.kd = m.kd)) = some m := by
  induction ms with
  | nil => cases hm
  | cons x ms ih =>
    rw [List.map_cons, List.nodup_cons] at nd
    rw [List.find?_cons]
    rcases List.mem_cons.mp hm with rfl | hm
    · simp
    · have : ¬ x.kd = m.kd := fun e => nd.1 (e ▸ List.mem_map.mpr ⟨m, hm, rfl⟩)
      simp only [this, decide_false]
      exact ih nd.2 hm
theorem find_rev {ms : List Mv} (nd : (ms.map Mv.kd).Nodup) (k : Str) : (ms.reverse.find? fun m => decide (m.kd = k)) = ms.find? fun m => decide (m.kd = k) := by
  by_cases h : k ∈ ms.map Mv.kd
  · obtain ⟨m, hm, rfl⟩ := List.mem_map.mp h
    rw [find_one nd hm, find_one (by rw [List.map_reverse]; exact ((List.reverse_perm _).nodup_iff.mpr nd)) (List.mem_reverse.mpr hm)]
  · rw [find_none h, find_none (by rw [List.map_reverse]; exact fun z => h (List.mem_reverse.mp z))]
theorem find_app {ms : List Mv} {m : Mv} {k : Str} (h : m.kd ∉ ms.map Mv.kd) : ((ms ++ [m]).find? fun x => decide (x.kd = k)) = if m.kd = k then some m else ms.find? fun x => decide (x.kd = k) := by
  rw [List.find?_append]
  by_cases e : m.kd = k
  · subst e
    rw [find_none h]
    simp
  · cases ms.find? fun x => decide (x.kd = k) <;> simp [e]
theorem fields_fin {S : Sch} (nd : (names S).Nodup) (ms : List Mv) {k : Str} (hk : k ∈ names S) : fieldsOf (finS S ms) k = apF ms k (fieldsOf S k) := by
  have h1 := sch_at hk
  have h2 : (finS S ms)[ix k (names S)]? = some (k, apF ms k (fieldsOf S k)) := by
    unfold finS
    rw [List.getElem?_map, h1]
    rfl
  unfold D.fieldsOf
  rw [names_finS, List.getD_eq_getElem?_getD, h2]
  rfl
theorem finS_nil (S : Sch) : finS S [] = S := by
  unfold finS apF
  simp
theorem finS_snoc {S : Sch} (nd : (names S).Nodup) {ms : List Mv} {m : Mv} (h : m.kd ∉ ms.map Mv.kd) (hk : m.kd ∈ names S) : finS S (ms ++ [m]) = withF (finS S ms) m.kd (nF m (fieldsOf (finS S ms) m.kd)) := by
  rw [fields_fin nd ms hk]
  have h0 : apF ms m.kd (fieldsOf S m.kd) = fieldsOf S m.kd := by unfold apF; rw [find_none h]
  rw [h0]
  unfold finS withF
  rw [List.map_map]
  refine List.map_congr_left fun q hq => ?_
  show (q.1, apF (ms ++ [m]) q.1 q.2) = (q.1, if q.1 = m.kd then nF m (fieldsOf S m.kd) else apF ms q.1 q.2)
  congr 1
  unfold apF
  rw [find_app h]
  by_cases e : m.kd = q.1
  · rw [if_pos e, if_pos e.symm]
    have : fieldsOf S m.kd = q.2 := by rw [e]; exact fieldsOf_mem nd hq
    rw [this]
  · rw [if_neg e, if_neg fun z => e z.symm]
theorem finT_snoc {S : Sch} {st : Sto} (nd : (names S).Nodup) (hl : st.length = S.length) {ms : List Mv} {m : Mv} (h : m.kd ∉ ms.map Mv.kd) (hk : m.kd ∈ names S) : mvT (finS S ms) m (finT S st ms) = finT S st (ms ++ [m]) := by
  unfold mvT
  rw [names_finS]
  have hz : (names S).zip (finT S st ms) = (S.zip st).map fun p => (p.1.1, apH ms p.1.1 p.1.2 p.2) := by
    unfold names finT
    rw [List.zip_map]
    refine List.ext_getElem? fun i => ?_
    rw [List.getElem?_map, List.getElem?_map]
    cases q1 : (S.zip st)[i]? with
    | none =>
      have : (S.zip (S.zip st))[i]? = none := by
        rw [List.getElem?_eq_none_iff] at q1 ⊢
        simp only [List.length_zip] at q1 ⊢
        omega
      rw [this]
      rfl
    | some p =>
      obtain ⟨a, b⟩ := List.getElem?_zip_eq_some.mp q1
      have : (S.zip (S.zip st))[i]? = some (p.1, p) := List.getElem?_zip_eq_some.mpr ⟨a, q1⟩
      rw [this]
      rfl
  rw [hz, List.map_map]
  unfold finT
  refine List.map_congr_left fun p hp => ?_
  have hpS : p.1 ∈ S := (List.of_mem_zip hp).1
  show mvH (finS S ms) p.1.1 m (apH ms p.1.1 p.1.2 p.2) = apH (ms ++ [m]) p.1.1 p.1.2 p.2
  by_cases e : m.kd = p.1.1
  · have e1 : apH ms p.1.1 p.1.2 p.2 = p.2 := by
      unfold apH
      rw [find_none (by rw [← e]; exact h)]
    have e2 : fieldsOf (finS S ms) p.1.1 = p.1.2 := by
      rw [fields_fin nd ms (mem_names hpS)]
      unfold apF
      rw [find_none (by rw [← e]; exact h)]
      exact fieldsOf_mem nd hpS
    rw [e1]
    unfold mvH mvV apH
    rw [find_app h, if_pos e, e2]
    simp only [if_pos e]
  · have e1 : mvH (finS S ms) p.1.1 m (apH ms p.1.1 p.1.2 p.2) = apH ms p.1.1 p.1.2 p.2 := by
      unfold mvH mvV
      simp only [if_neg e]
      simp
    rw [e1]
    unfold apH
    rw [find_app h, if_neg e]
theorem nV_len (m : Mv) (fs : List Fld) (vs : List Vl) : (nV m fs vs).length ≤ vs.length + 1 := by
  cases m <;> simp [nV] <;> omega
theorem finT_len {S : Sch} {st : Sto} (hl : st.length = S.length) (ms : List Mv) : (finT S st ms).length = S.length := by
  unfold finT
  rw [List.length_map, List.length_zip]
  omega
theorem finT_bd {S : Sch} {st : Sto} (ms : List Mv) (h : ∀ s ∈ st, s.2.length ≤ 100 ∧ ∀ r ∈ s.2, r.2.2.length ≤ 100) : ∀ s ∈ finT S st ms, s.2.length ≤ 500 ∧ ∀ r ∈ s.2, r.2.2.length ≤ 500 := fun s hs => by
  obtain ⟨p, hp, rfl⟩ := List.mem_map.mp hs
  obtain ⟨h1, h2⟩ := h p.2 (List.of_mem_zip hp).2
  unfold apH
  split
  · rename_i m _
    refine ⟨by simp; omega, fun r hr => ?_⟩
    obtain ⟨r0, hr0, rfl⟩ := List.mem_map.mp hr
    have := nV_len m p.1.2 r0.2.2
    have := h2 r0 hr0
    show (nV m p.1.2 r0.2.2).length ≤ 500
    omega
  · exact ⟨by omega, fun r hr => by have := h2 r hr; omega⟩
theorem fin_ok {S : Sch} (nd : (names S).Nodup) {ms : List Mv} {m : Mv} (hg : ∀ x ∈ ms ++ [m], Gd S x) (hnd : ((ms ++ [m]).map Mv.kd).Nodup) : schB (finS S (ms ++ [m])) = true := by
  have gm := hg m (by simp)
  obtain ⟨h1, h4, _, ho⟩ := schB_iff.mp gm.sb
  rw [names_withF] at ho
  have hl : (withF S m.kd (nF m (fieldsOf S m.kd))).length = S.length := by unfold withF; simp
  rw [hl] at h1 h4
  refine schB_iff.mpr ⟨by unfold finS; simpa using h1, by unfold finS; simpa using h4, by rw [names_finS]; exact nd, fun k hk => ?_⟩
  rw [names_finS]
  obtain ⟨q, hq, rfl⟩ := List.mem_map.mp hk
  by_cases hin : q.1 ∈ (ms ++ [m]).map Mv.kd
  · obtain ⟨x, hx, e⟩ := List.mem_map.mp hin
    have gx := hg x hx
    obtain ⟨_, _, _, hox⟩ := schB_iff.mp gx.sb
    rw [names_withF] at hox
    have := hox (q.1, nF x (fieldsOf S x.kd)) (mem_withF.mpr ⟨q, hq, by rw [if_pos e.symm]⟩)
    have e2 : apF (ms ++ [m]) q.1 q.2 = nF x (fieldsOf S x.kd) := by
      unfold apF
      rw [← e, find_one hnd hx, e, fieldsOf_mem nd hq]
    rw [e2]
    exact this
  · have e2 : apF (ms ++ [m]) q.1 q.2 = q.2 := by unfold apF; rw [find_none hin]
    rw [e2]
    have hne : ¬ q.1 = m.kd := fun e => hin (by rw [e]; simp)
    exact ho q (mem_withF.mpr ⟨q, hq, by rw [if_neg hne]⟩)
/-- the next move can be -/
theorem fin_next {S : Sch} (nd : (names S).Nodup) {ms : List Mv} {m : Mv} (hg : ∀ x ∈ ms ++ [m], Gd S x) (hnd : ((ms ++ [m]).map Mv.kd).Nodup) : mvS (finS S ms) m = some (finS S (ms ++ [m])) := by
  have gm := hg m (by simp)
  have hni : m.kd ∉ ms.map Mv.kd := fun z => by
    rw [List.map_append] at hnd
    exact (List.nodup_append.mp hnd).2.2 _ z _ (by simp) rfl
  rw [finS_snoc nd hni gm.kd]
  have hf : fieldsOf (finS S ms) m.kd = fieldsOf S m.kd := by
    rw [fields_fin nd ms gm.kd]
    unfold apF
    rw [find_none hni]
  refine (mvS_some gm.fs).mpr ⟨by rw [names_finS]; exact gm.kd, by rw [hf]; exact gm.cf, ?_, rfl⟩
  rw [← finS_snoc nd hni gm.kd]
  exact fin_ok nd hg hnd
/-! ### the law -/
theorem finT_nil {S : Sch} {st : Sto} (hl : st.length = S.length) : finT S st [] = st := by
  unfold finT apH
  simp only [List.find?_nil]
  rw [List.map_snd_zip]
  omega
theorem fin_sch {S : Sch} (ok : SchOk S) {ms : List Mv} (hg : ∀ x ∈ ms, Gd S x) (hnd : (ms.map Mv.kd).Nodup) : SchOk (finS S ms) := by
  rcases List.eq_nil_or_concat ms with rfl | ⟨l, m, rfl⟩
  · rw [finS_nil]; exact ok
  · rw [List.concat_eq_append] at hg hnd ⊢
    exact schB_ok (fin_ok ok.nd hg hnd)
theorem w_all_moved {S : Sch} {st : Sto} (ok : SchOk S) (hl : st.length = S.length) (hb : ∀ s ∈ st, s.2.length ≤ 100 ∧ ∀ r ∈ s.2, r.2.2.length ≤ 100) {ms : List Mv} (hg : ∀ x ∈ ms, Gd S x) (hnd : (ms.map Mv.kd).Nodup) (W : Om) : TT.fn i_all_moved [eSch S, eSto st, .lst (ms.map eMv)] W = .ok (.val (.tup [eSch (finS S ms), eSto (finT S st ms)])) W := by
  rw [f_all_moved, run_eq rfl]
  simp only [d_all_moved, List.map_cons, List.map_nil, List.cons_append, List.nil_append, List.replicate]
  obtain ⟨d, h1, h2⟩ := for_inv (fun (l : List Mv) (d : List Mv) => d ++ l = ms) ms eMv (fun d => [.val (eSch (finS S d)), .val (eSto (finT S st d)), .val (.lst (ms.map eMv)), .un]) [] (T := TT) (tg := .nm 3) (k := .one) (es := [(.var 2)]) (body := [(.asg (.nm 1) (.call i_moved_store [(.var 0), (.var 1), (.var 3)])), (.asg (.nm 0) (.call i_moved_schema [(.var 0), (.var 3)]))]) (kil := [3])
    (env := [.val (eSch S), .val (eSto st), .val (.lst (ms.map eMv)), .un]) (W := W) (by simp) (by rw [finS_nil, finT_nil hl]) rfl (by
    rintro d m l hd
    have hsub : ∀ x ∈ d ++ [m], x ∈ ms := fun x hx => by
      rw [← hd]
      rcases List.mem_append.mp hx with h | h
      · exact List.mem_append_left _ h
      · rw [List.mem_singleton.mp h]; simp
    have hg' : ∀ x ∈ d ++ [m], Gd S x := fun x hx => hg x (hsub x hx)
    have hnd' : ((d ++ [m]).map Mv.kd).Nodup := by
      have e : ms.map Mv.kd = (d ++ [m]).map Mv.kd ++ l.map Mv.kd := by rw [← hd, ← List.map_append]; simp
      rw [e] at hnd
      exact (List.nodup_append.mp hnd).1
    have hgd : ∀ x ∈ d, Gd S x := fun x hx => hg' x (by simp [hx])
    have hndd : (d.map Mv.kd).Nodup := by
      rw [List.map_append] at hnd'
      exact (List.nodup_append.mp hnd').1
    have hni : m.kd ∉ d.map Mv.kd := fun z => by
      rw [List.map_append] at hnd'
      exact (List.nodup_append.mp hnd').2.2 _ z _ (by simp) rfl
    have gm := hg' m (by simp)
    have ok' := fin_sch ok hgd hndd
    have hn := fin_next ok.nd hg' hnd'
    have hfl : (finT S st d).length = (finS S d).length := by rw [finT_len hl]; unfold finS; simp
    have h1 := w_moved_store ok' gm.fs hfl (finT_bd d hb) hn W
    rw [finT_snoc ok.nd hl hni gm.kd] at h1
    have h2 := w_moved_schema3 ok' gm.fs W
    rw [hn] at h2
    simp only [oS] at h2
    exact ⟨d ++ [m], by simp [exs_cons, h1, h2], by simpa using hd⟩)
  have h2 : d = ms := by simpa using h2
  subst d
  rw [exs_nx h1]
  simp [sz_big]
theorem fin_rev {S : Sch} {st : Sto} {ms : List Mv} (hnd : (ms.map Mv.kd).Nodup) : finS S ms.reverse = finS S ms ∧ finT S st ms.reverse = finT S st ms := by
  constructor
  · unfold finS apF
    simp only [find_rev hnd]
  · unfold finT apH
    simp only [find_rev hnd]
theorem w_can_be {S : Sch} (ok : SchOk S) {m : Mv} (hm : m.fs = true) (W : Om) : TT.fn i__law_can_be [eSch S, eMv m] W = .ok (.val (.bl (mvS S m).isSome)) W := by
  rw [f__law_can_be, run_eq rfl]
  have h := w_moved_schema3 ok hm W
  cases q : mvS S m with
  | none =>
    rw [q] at h
    simp only [oS] at h
    have e0 : esub cBM 1 = true := rfl
    simp [d__law_can_be, exs_cons, h, e0]
  | some S' =>
    rw [q] at h
    simp only [oS] at h
    simp [d__law_can_be, exs_cons, h]
theorem mv_kd (m : Mv) : idxV (eMv m) (.int 1) = some (.str m.kd) := by cases m <;> simp [eMv, Mv.kd]
theorem mv_wd (m : Mv) : ∃ x : Str, idxV (eMv m) (.int 0) = some (.str x) ∧ inV (.str x) (.tup [.str "add", .str "leave", .str "call"]) = some m.fs := by
  cases m with
  | add =>
    have h : inV (.str "add") (.tup [.str "add", .str "leave", .str "call"]) = some true := by decide +kernel
    exact ⟨"add", by simp [eMv], h⟩
  | leave =>
    have h : inV (.str "leave") (.tup [.str "add", .str "leave", .str "call"]) = some true := by decide +kernel
    exact ⟨"leave", by simp [eMv], h⟩
  | call =>
    have h : inV (.str "call") (.tup [.str "add", .str "leave", .str "call"]) = some true := by decide +kernel
    exact ⟨"call", by simp [eMv], h⟩
  | name =>
    have h : inV (.str "name") (.tup [.str "add", .str "leave", .str "call"]) = some false := by decide +kernel
    exact ⟨"name", by simp [eMv], h⟩
  | more =>
    have h : inV (.str "more") (.tup [.str "add", .str "leave", .str "call"]) = some false := by decide +kernel
    exact ⟨"more", by simp [eMv], h⟩
  | less =>
    have h : inV (.str "less") (.tup [.str "add", .str "leave", .str "call"]) = some false := by decide +kernel
    exact ⟨"less", by simp [eMv], h⟩
theorem law_all (ns : List Int) (hl63 : ns.length ≤ 63) (W : Om) : TT.fn i_law [.scr ns] W = .ok (.val (.bl true)) W := by
  have hs := IsScr.scr ns
  have ok := schemaF_ok ns 0
  have hsch := w_schema hs (at' := 0) (by decide) W
  obtain ⟨st0, hst, so, sm⟩ := w_store hs (a := 70) (by decide) ok (most := 4) (by decide) W
  generalize schemaF ns 0 = S at *
  have l4 := ok.l4
  have hst' : TT.fn i__law_store [.scr ns, .int 70, eSch S, .int 4] W = .ok (.val (eSto st0)) W := hst
  have so0 := so.sh sm
  rw [f_law, run_eq rfl]
  simp only [d_law, List.map_cons, List.map_nil, List.cons_append, List.nil_append, List.replicate]
  rw [exs_nx (env' := [.val (.scr ns), .val (eSch S), .un, .un, .un, .un, .un]) (W' := W) (by simp [hsch])]
  rw [exs_nx (env' := [.val (.scr ns), .val (eSch S), .val (eSto st0), .un, .un, .un, .un]) (W' := W) (by simp [hst'])]
  rw [exs_nx (env' := [.val (.scr ns), .val (eSch S), .val (eSto st0), .own (.l []), .un, .un, .un]) (W' := W) (by simp [sz_big])]
  obtain ⟨ms, h1, hg, hnd, hlen⟩ := for_inv (fun (l : List Nat) (ms : List Mv) => (∀ x ∈ ms, Gd S x) ∧ (ms.map Mv.kd).Nodup ∧ ms.length + l.length ≤ 8) (List.range 8) eNat (fun ms => [.val (.scr ns), .val (eSch S), .val (eSto st0), .own (.l (ms.map eMv)), .un, .un, .un]) [] (T := TT) (tg := .nm 4) (k := .rng) (es := [(.int 8)])
    (body := [(.asg (.nm 5) (.call i__law_move [(.var 0), (.op .add (.int 610) (.op .mul (.int 25) (.var 4))), (.var 1)])), (.ife (.and [(.cmp .isin (.idx (.var 5) (.int 0)) (.tup [(.str "add"), (.str "leave"), (.str "call")])), (.cmp .notin (.idx (.var 5) (.int 1)) (.comp (.idx (.var 6) (.int 1)) (.nm 6) .one [(.var 3)] [] [("_law_one", 6)]))]) [(.ife (.call i__law_can_be [(.var 1), (.var 5)]) [(.app 3 (.var 5))] [])] [])]) (kil := [4, 5])
    (env := [.val (.scr ns), .val (eSch S), .val (eSto st0), .own (.l []), .un, .un, .un]) (W := W) (by simp; rw [itV_rng (m := 8) (by omega) (by omega)]; rfl) rfl ⟨by simp, by simp, by simp⟩ (by
    rintro ms j l ⟨hg, hnd, hlen⟩
    simp only [List.length_cons] at hlen
    obtain ⟨m, hm⟩ := w_move hs (a := 610 + 25 * (j : Int)) (by omega) ok W
    have hm2 := b_mul (a := 25) (b := (j : Int)) (.inl (by decide))
    obtain ⟨x, x0, x1⟩ := mv_wd m
    have hcm := comp_m ms eMv (fun m => .str m.kd) (T := TT) (e := (.idx (.var 6) (.int 1))) (tg := (.nm 6)) (k := .one) (es := [(.var 3)]) (c := []) (own := [("_law_one", 6)]) (env := [.val (.scr ns), .val (eSch S), .val (eSto st0), .own (.l (ms.map eMv)), .val (eNat j), .val (eMv m), .un]) (W := W) (by simp) (sz_big (by omega)) (by intro q hq; simp [mv_kd])
    have hN : ms.map (fun m => PV.str m.kd) = (ms.map Mv.kd).map .str := by simp [Function.comp_def]
    rw [hN] at hcm
    have hin := in_strs m.kd (ms.map Mv.kd)
    generalize hK : ms.map Mv.kd = K at hcm hin
    have hz : ms.length < sz := sz_lt (by omega)
    by_cases hf : m.fs = true
    · by_cases hk : m.kd ∈ K
      · refine ⟨ms, ?_, hg, hnd, by omega⟩
        simp only [eNat] at hcm
        simp [eNat, exs_cons, hm2, hm, x0, x1, hf, mv_kd, hcm, hin, hk, sz_big]
      · have hc := w_can_be ok hf W
        cases q : mvS S m with
        | none =>
          rw [q] at hc
          refine ⟨ms, ?_, hg, hnd, by omega⟩
          simp only [eNat] at hcm
          simp at hc
          simp [eNat, exs_cons, hm2, hm, x0, x1, hf, mv_kd, hcm, hin, hk, hc, sz_big]
        | some S' =>
          rw [q] at hc
          obtain ⟨a1, a2, a3, _⟩ := (mvS_some hf).mp q
          refine ⟨ms ++ [m], ?_, fun y hy => ?_, ?_, by simp; omega⟩
          · simp only [eNat] at hcm
            simp at hc
            simp [eNat, exs_cons, hm2, hm, x0, x1, hf, mv_kd, hcm, hin, hk, hc, xApp_app, hz, sz_big]
          · rcases List.mem_append.mp hy with hy | hy
            · exact hg y hy
            · rw [List.mem_singleton.mp hy]
              exact ⟨hf, a1, a2, a3⟩
          · rw [List.map_append, List.nodup_append]
            refine ⟨hnd, by simp, fun y hy z hz e => hk ?_⟩
            simp at hz
            rw [← hz, ← e, ← hK]
            exact hy
    · have hf' : m.fs = false := Bool.eq_false_iff.mpr hf
      refine ⟨ms, ?_, hg, hnd, by omega⟩
      simp [eNat, exs_cons, hm2, hm, x0, x1, hf', sz_big])
  rw [exs_nx h1]
  clear h1
  by_cases h2 : (ms.length : Int) < 2
  · simp [exs_cons, h2]
  · have hb : ∀ s ∈ st0, s.2.length ≤ 100 ∧ ∀ r ∈ s.2, r.2.2.length ≤ 100 := fun s hs => by
      obtain ⟨i, hi⟩ := List.getElem?_of_mem hs
      have hiS : i < S.length := by
        have := (List.getElem?_eq_some_iff.mp hi).1
        rw [so0.len] at this
        exact this
      have hkS : S[i] ∈ S := List.getElem_mem hiS
      have e : shelfOf S st0 (S[i]).1 = s := by
        have h1 := sto_at (st := st0) so0.len (mem_names hkS)
        have h2 : ix (S[i]).1 (names S) = i := ix_of ok.nd (by unfold names; rw [List.getElem?_map, List.getElem?_eq_getElem hiS]; rfl)
        rw [h2, hi] at h1
        exact (Option.some.inj h1).symm
      have h3 := so0.siz _ hkS
      rw [e] at h3
      refine ⟨by omega, fun r hr => ?_⟩
      have h4 := so0.val _ hkS r (by rw [e]; exact hr)
      have h5 := (ok.fl _ hkS).2
      omega
    have a1 := w_all_moved ok so0.len hb hg hnd W
    have hg2 : ∀ x ∈ ms.reverse, Gd S x := fun x hx => hg x (List.mem_reverse.mp hx)
    have hnd2 : (ms.reverse.map Mv.kd).Nodup := by rw [List.map_reverse]; exact ((List.reverse_perm _).nodup_iff.mpr hnd)
    have a2 := w_all_moved ok so0.len hb hg2 hnd2 W
    obtain ⟨r1, r2⟩ := fin_rev (S := S) (st := st0) hnd
    rw [r1, r2, List.map_reverse] at a2
    have hr : revV (.lst (ms.map eMv)) = some (.fre (.l ((ms.reverse).map eMv))) := by
      show some (R.fre (.l (ms.map eMv).reverse)) = _
      rw [List.map_reverse]
    have hd : dat 60 (.tup [eSch (finS S ms), eSto (finT S st0 ms)]) = true := by simp [dat, dats]
    have e := c_eq_self hd
    simp [exs_cons, h2, a1, a2, hr, e]
theorem law_ok (ns : List Int) (hl : ns.length ≤ 63) : ∃ W1, (tb (dsOf ts) pu 11).fn LF [.scr ns] [] = .ok (.val (.bl true)) W1 := by
  rw [← TT_eq]
  first
  | exact ⟨_, law_all ns hl []⟩
  | exact law_all ns hl
end K73
open PySem PySem.W PySem.Calls PyProof.Rows
theorem PySem.Challenge.cw_heldrows_k73_whole_moves_apart_holds : PySem.Challenge.rw_heldrows_k73_whole_moves_apart.Holds := by
  w_on; o_law
  refine HandSHeadRun.head_any (r := OpenLaw.row PySem.Challenge.rw_heldrows_k73_whole_moves_apart) (q := view (OpenLaw.row PySem.Challenge.rw_heldrows_k73_whole_moves_apart).prog [53]) (H := K73.hk) (ob := K73.ob) (M := 4000) (loose := K73.loose) (d := HandSHeadRun.topDef (OpenLaw.row PySem.Challenge.rw_heldrows_k73_whole_moves_apart).prog 53) (kwd := []) K73.ob_eq
    (by kernel_rfl) (fun s => by kernel_rfl) K73.hdRun (by kernel_rfl) (by kernel_rfl) (by kernel_rfl) (by rfl) (by first | assumption | decide +kernel) (by decide +kernel) ⟨rfl, rfl, rfl, rfl, rfl, by decide +kernel⟩ ?hw ?hc
  case hw => w_witness2
  case hc =>
    refine L2.walk_ofE (l := PySem.Challenge.rw_heldrows_k73_whole_moves_apart) (n := 63) (k := 22) (x := "_law_script") (CX := D.CXA (PySem.Challenge.rw_heldrows_k73_whole_moves_apart).prog) rfl (by decide) (by kernel_rfl) ⟨rfl, by decide, by decide⟩ ?F (fun _ _ _ _ z => D.cxa_none z)
    intro w mg fa h Y G hmg0
    obtain ⟨K, KX, c⟩ := Y
    have hmg : mg ("law" : PySem.Str) = some (.ref fa) := by
      have e : (HandSHeadRun.topDef (OpenLaw.row PySem.Challenge.rw_heldrows_k73_whole_moves_apart).prog 53).name = ("law" : PySem.Str) := by kernel_rfl
      rw [← e]
      exact hmg0
    obtain ⟨fd, sp, hb, hsp, hF⟩ := D.law_end (P := (PySem.Challenge.rw_heldrows_k73_whole_moves_apart).prog) (w := w) (n := 10) (f := K73.LF) (t := K73.t_law) c KX G K73.same K73.bds K73.clOk rfl rfl rfl rfl rfl hmg K73.law_ok
    exact ⟨K, fd, sp, KX, hb, hsp, fun base hK hG => D.fn_cxa (hF base hK hG)⟩
