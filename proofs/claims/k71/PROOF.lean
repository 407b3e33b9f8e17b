import PyProof.Rows.All
import Wide.All
import OpenK.AllK
import Wide.FinOn
import HandS.ForMost
import HandS.Zip
import HandS.Wide
import HandS.WideBits
import HandS.TupAny
import HandS.TupSets
import HandS.DictTup
import HandS.TupLen
import HandS.Style
import HandS.Flow
import HandS.Conv
import HandS.More
import KE.KDictSum
import KE.SortData
import KE.DataCmp
import KE.DataIsa
import KE.DataEq
import KE.DataAny
import KE.DataMinMax
import KE.DataFind
import PyProof.ReprRoads
import KE.KRevSl
import HandS.RevTup
import PyProof.ListRange
import HandS.CallRecv
import HandS.Exc
import HandS.Ends
import HandS.EndBits
import HandS.Head0
import HandS.Head1
import HandS.Head2
import HandS.HeadEnd
import HandS.HeadHook1
import HandS.HeadHook2
import HandS.HeadHook4
import HandS.Defaults
import PyProof.ReprLen
import PySem.Challenge.RW_eachtwo_k71_whole_words_made
set_option Elab.async false
set_option linter.all false
set_option maxRecDepth 100000
set_option autoImplicit false
set_option maxHeartbeats 4000000
/-! Mn, part A: a small machine over data (PyData) with owned lists, dicts, objects: what the program's text means, as plain functions. -/
namespace Mn
open PySem
abbrev D := PyData

/-- what a slot holds: data that never changes, or a thing that this slot alone may change -/
inductive M where
  | d (x : D)
  | lst (xs : List D)
  | lck (xs : List D)
  | dic (kvs : List (D × D))
  | set (xs : List D)
  | ins (c : Nat) (fs : List (Nat × M))

abbrev Fr := List (Option M)
/-- an exception of the program: its class, its fields -/
structure Exc where
  c : Nat
  fs : List (Nat × D)
inductive R (α : Type) where
  | ok (a : α)
  | exc (e : Exc) (fr : Fr)
  | stuck
def R.bind {α β : Type} : R α → (α → R β) → R β
  | .ok a, f => f a
  | .exc e fr, _ => .exc e fr
  | .stuck, _ => .stuck
@[simp] theorem R.bind_ok {α β : Type} (a : α) (f : α → R β) : (R.ok a).bind f = f a := rfl
@[simp] theorem R.bind_stuck {α β : Type} (f : α → R β) : (R.stuck : R α).bind f = .stuck := rfl
@[simp] theorem R.bind_exc {α β : Type} (e : Exc) (fr : Fr) (f : α → R β) : (R.exc e fr : R α).bind f = .exc e fr := rfl
def R.of {α : Type} : Option α → R α
  | some a => .ok a
  | none => .stuck
@[simp] theorem R.of_some {α : Type} (a : α) : R.of (some a) = .ok a := rfl
@[simp] theorem R.of_none {α : Type} : R.of (none : Option α) = .stuck := rfl

/-- made into data that never changes -/
def M.fz : M → Option D
  | .d x => some x
  | .lst xs => some (.list xs)
  | _ => none
/-- read as it stands -/
def M.rd : M → Option D
  | .d x => some x
  | .lst xs => some (.list xs)
  | .lck xs => some (.list xs)
  | .dic kvs => some (.dict kvs)
  | _ => none
def M.own : M → Bool
  | .d _ => false
  | _ => true
def M.lock : M → M
  | .lst xs => .lck xs
  | m => m
def M.unlock : M → M
  | .lck xs => .lst xs
  | m => m

inductive Ty where
  | int | bool | str | tuple | list | none_
  deriving DecidableEq
def Ty.is : Ty → D → Bool
  | .int, x => x.isInt
  | .bool, x => x.isBool
  | .str, x => x.isStr
  | .tuple, x => x.isTuple
  | .list, x => x.isList
  | .none_, x => x.isNoneType

inductive Op where
  | add | sub | mul | fdiv | mod | pow | neg
  | lt | le | gt | ge | eq | ne | is_ | isn | in_ | nin
  | len | all | any | sorted | tuple | list | set | abs | int | str | repr | bool | max2 | min2 | sum | divmod
  | isi (ts : List Ty)
  | idx | slice (lo hi : Bool) | rev
  | rng1 | rng2 | trng1 | trng2 | lrev | join | split | get1 | get2 | sset
  deriving DecidableEq

def line : Nat := 16777216
/-- no dict within, not deeper than 40 -/
def okd (x : D) : Bool := x.plain && decide (x.depth ≤ 40)
def okds (xs : List D) : Bool := okd (.tuple xs)

def ltD : D → D → Option Bool
  | .int i, .int j => some (decide (i < j))
  | a, b => if okd a && okd b && PySem.W.alike a b && !a.isNoneType then some (PySem.W.dataLt a b) else none

def mulOk (i j : Int) : Bool := (decide (-(2 ^ 64) < i) && decide (i < 2 ^ 64)) || (decide (-(2 ^ 64) < j) && decide (j < 2 ^ 64))

/-- key among the keys of a dict -/
def dfind (k : D) : List (D × D) → Option D
  | [] => none
  | (a, v) :: r => if PyData.eqv a k then some v else dfind k r
def dput (k v : D) (kvs : List (D × D)) : List (D × D) := if kvs.any (fun p => PyData.eqv p.1 k) then kvs.map (fun p => if PyData.eqv p.1 k then (p.1, v) else p) else kvs ++ [(k, v)]

/-- a key's kind: 1 a number, text; 2 a tuple of these; 0 none of both -/
def atomKey : D → Bool
  | .int _ => true
  | .str _ => true
  | _ => false
def keyKind : D → Nat
  | .int _ => 1
  | .str _ => 1
  | .tuple xs => if xs.all atomKey then 2 else 0
  | _ => 0
def keysOk (k : Nat) (kvs : List (D × D)) : Bool := kvs.all fun p => keyKind p.1 == k

/-- the place of an index -/
def place (i : Int) (n : Nat) : Option Nat := if 0 ≤ i then (if i < n then some i.toNat else none) else if -(n : Int) ≤ i then some (i + n).toNat else none
def cutAt (n d : Nat) : Option Int → Nat
  | none => d
  | some i => if i < 0 then (i + (n : Int)).toNat else min i.toNat n
def cut {α : Type} (xs : List α) (lo hi : Option Int) : List α := (xs.drop (cutAt xs.length 0 lo)).take (cutAt xs.length xs.length hi - cutAt xs.length 0 lo)

def sortD (xs : List D) : List D := xs.mergeSort (PySem.W.dataLe false fun x => x)
def isIntD : D → Bool
  | .int _ => true
  | _ => false
def isStrD : D → Bool
  | .str _ => true
  | _ => false
/-- a tuple of ints, not empty -/
def intTup : D → Bool
  | .tuple (x :: xs) => isIntD x && xs.all isIntD
  | _ => false
def strTup : D → Bool
  | .tuple (x :: xs) => isStrD x && xs.all isStrD
  | _ => false
/-- a tuple of ints -/
def intTup0 : D → Bool
  | .tuple xs => xs.all isIntD
  | _ => false
/-- tuples of ints, the first one empty -/
def headE : List D → Bool
  | .tuple [] :: r => r.all intTup0
  | _ => false
def sortable (xs : List D) : Bool := xs.all isIntD || xs.all isStrD || xs.all intTup || xs.all strTup
/-- the items unlike those ahead -/
def uniq : List D → List D → List D
  | acc, [] => acc
  | acc, x :: r => if acc.any (fun y => PyData.eqv y x) then uniq acc r else uniq (acc ++ [x]) r

def smallI (i : Int) : Bool := decide (-(2 ^ 62) ≤ i) && decide (i < 2 ^ 62)
def rngD (a b : Int) : List D := (List.range (b - a).toNat).map fun (k : Nat) => .int (a + (k : Int))

def bl (b : Bool) : Option M := some (.d (.bool b))
def addS : List D → Option M
  | [.int i, .int j] => some (.d (.int (i + j)))
  | [.str x, .str y] => if x.length + y.length ≤ line then some (.d (.str (x ++ y))) else none
  | [.tuple xs, .tuple ys] => if xs.length + ys.length ≤ line then some (.d (.tuple (xs ++ ys))) else none
  | [.list xs, .list ys] => if xs.length + ys.length ≤ line then some (.lst (xs ++ ys)) else none
  | _ => none
def subS : List D → Option M
  | [.int i, .int j] => some (.d (.int (i - j)))
  | _ => none
def mulS : List D → Option M
  | [.int i, .int j] => if mulOk i j then some (.d (.int (i * j))) else none
  | [.list xs, .int j] => if 0 ≤ j ∧ j ≤ 1000 ∧ xs.length * j.toNat ≤ line then some (.lst (List.replicate j.toNat xs).flatten) else none
  | _ => none
def fdivS : List D → Option M
  | [.int i, .int j] => if 0 < j ∧ j < 1073741824 then some (.d (.int (i / j))) else none
  | _ => none
def modS : List D → Option M
  | [.int i, .int j] => if 0 < j then some (.d (.int (i % j))) else none
  | _ => none
def powS : List D → Option M
  | [.int i, .int j] => if 0 ≤ j ∧ j ≤ 1000 ∧ i.natAbs < 2 ^ 64 then some (.d (.int (i ^ j.toNat))) else none
  | _ => none
def negS : List D → Option M
  | [.int i] => some (.d (.int (-i)))
  | _ => none
def ltS : List D → Option M
  | [a, b] => (ltD a b).bind bl
  | _ => none
def gtS : List D → Option M
  | [a, b] => (ltD b a).bind bl
  | _ => none
def leS : List D → Option M
  | [a, b] => (ltD b a).bind fun c => bl (!c)
  | _ => none
def geS : List D → Option M
  | [a, b] => (ltD a b).bind fun c => bl (!c)
  | _ => none
def eqS : List D → Option M
  | [a, b] => if okd a && okd b then bl (PyData.eqv a b) else none
  | _ => none
def neS : List D → Option M
  | [a, b] => if okd a && okd b then bl (!PyData.eqv a b) else none
  | _ => none
def isS : List D → Option M
  | [a, .none] => bl a.isNoneType
  | [.bool b, .bool c] => bl (b == c)
  | _ => none
def isnS : List D → Option M
  | [a, .none] => bl (!a.isNoneType)
  | [.bool b, .bool c] => bl (!(b == c))
  | _ => none
def keyed (k : D) (kvs : List (D × D)) : Bool := keyKind k != 0 && keysOk (keyKind k) kvs
def inS : List D → Option M
  | [x, .list xs] => if okd x && okds xs then bl (xs.any fun y => PyData.eqv y x) else none
  | [x, .tuple xs] => if okd x && okds xs then bl (xs.any fun y => PyData.eqv y x) else none
  | [k, .dict kvs] => if keyed k kvs then bl (dfind k kvs).isSome else none
  | _ => none
def ninS : List D → Option M
  | [x, .list xs] => if okd x && okds xs then bl (!xs.any fun y => PyData.eqv y x) else none
  | [x, .tuple xs] => if okd x && okds xs then bl (!xs.any fun y => PyData.eqv y x) else none
  | [k, .dict kvs] => if keyed k kvs then bl (!(dfind k kvs).isSome) else none
  | _ => none
def lenS : List D → Option M
  | [.str x] => if x.length ≤ line then some (.d (.int x.length)) else none
  | [.list xs] => some (.d (.int xs.length))
  | [.tuple xs] => some (.d (.int xs.length))
  | [.dict kvs] => if keysOk 1 kvs || keysOk 2 kvs then some (.d (.int kvs.length)) else none
  | _ => none
def bools : List D → Option (List Bool)
  | [] => some []
  | .bool b :: r => (bools r).map (b :: ·)
  | _ => none
def allS : List D → Option M
  | [.list xs] => (bools xs).bind fun bs => bl (bs.all id)
  | _ => none
def anyS : List D → Option M
  | [.list xs] => (bools xs).bind fun bs => bl (bs.any id)
  | _ => none
def sortedS : List D → Option M
  | [.list xs] => if sortable xs || headE xs then some (.lst (sortD xs)) else none
  | [.tuple xs] => if sortable xs || headE xs then some (.lst (sortD xs)) else none
  | [.dict kvs] => if sortable (kvs.map (·.1)) && (keysOk 1 kvs || keysOk 2 kvs) then some (.lst (sortD (kvs.map (·.1)))) else none
  | _ => none
def tupleS : List D → Option M
  | [.list xs] => some (.d (.tuple xs))
  | [.tuple xs] => some (.d (.tuple xs))
  | _ => none
def listS : List D → Option M
  | [.list xs] => some (.lst xs)
  | [.tuple xs] => some (.lst xs)
  | _ => none
def absS : List D → Option M
  | [.int i] => some (.d (.int (if i < 0 then -i else i)))
  | _ => none
def intS : List D → Option M
  | [.int i] => some (.d (.int i))
  | [.bool b] => some (.d (.int (if b then 1 else 0)))
  | _ => none
def boolS : List D → Option M
  | [.int i] => bl (i != 0)
  | [.bool b] => bl b
  | _ => none
def strS : List D → Option M
  | [.int i] => if i.natAbs.log2 < 1920 then some (.d (.str (toString i))) else none
  | _ => none
def reprS : List D → Option M
  | [x] => if okd x && x.showable && decide (x.shown.length ≤ line) then some (.d (.str x.shown)) else none
  | _ => none
def max2S : List D → Option M
  | [.int i, .int j] => some (.d (.int (if j > i then j else i)))
  | _ => none
def min2S : List D → Option M
  | [.int i, .int j] => some (.d (.int (if j < i then j else i)))
  | _ => none
def divmodS : List D → Option M
  | [.int i, .int j] => if 0 < j ∧ j < 1073741824 then some (.d (.tuple [.int (i / j), .int (i % j)])) else none
  | _ => none
def isDictD : D → Bool
  | .dict _ => true
  | _ => false
def isiS (ts : List Ty) : List D → Option M
  | [x] => if isDictD x then none else bl (ts.any fun t => t.is x)
  | _ => none
def idxS : List D → Option M
  | [.tuple xs, .int i] => ((place i xs.length).bind fun k => xs[k]?).map .d
  | [.list xs, .int i] => ((place i xs.length).bind fun k => xs[k]?).map .d
  | [.dict kvs, k] => if keyed k kvs then (dfind k kvs).map .d else none
  | _ => none
def sliceS (lo hi : Bool) : List D → Option M
  | [.tuple xs, .int i, .int j] => if lo && hi then some (.d (.tuple (cut xs (some i) (some j)))) else none
  | [.tuple xs, .int i] => if lo && !hi then some (.d (.tuple (cut xs (some i) none))) else if !lo && hi then some (.d (.tuple (cut xs none (some i)))) else none
  | [.list xs, .int i, .int j] => if lo && hi then some (.lst (cut xs (some i) (some j))) else none
  | [.list xs, .int i] => if lo && !hi then some (.lst (cut xs (some i) none)) else if !lo && hi then some (.lst (cut xs none (some i))) else none
  | _ => none
def revS : List D → Option M
  | [.list xs] => some (.lst xs.reverse)
  | [.tuple xs] => some (.d (.tuple xs.reverse))
  | _ => none
def lrevS : List D → Option M
  | [.list xs] => some (.lst xs.reverse)
  | _ => none
/-- the int lists that these tuples are -/
def intsD : List D → Option (List Int)
  | [] => some []
  | .int i :: r => (intsD r).map (i :: ·)
  | _ => none
def tupsD : List D → Option (List (List Int))
  | [] => some []
  | .tuple xs :: r => (intsD xs).bind fun w => (tupsD r).map (w :: ·)
  | _ => none
def sortT (l : List (List Int)) : List (List Int) := l.mergeSort fun a b => decide (a ≤ b)
/-- the first ones of those alike -/
def ddp : List (List Int) → List (List Int)
  | [] => []
  | x :: r => x :: (ddp r).filter fun y => !decide (y = x)
def bdB : Int := 1048576
def setOk (ws : List (List Int)) : Bool := decide (ws.length < 64) && (match ws with
  | [] => true
  | w :: _ => decide (w ≠ []) && ws.all fun v => decide (v.length = w.length) && v.all fun a => decide (0 ≤ a) && decide (a < bdB))
def ssetB (xs : List D) : Option M := (tupsD xs).bind fun ws => if setOk ws then some (.lst ((sortT (ddp ws)).map fun w => .tuple (w.map .int))) else none
def ssetS : List D → Option M
  | [.list xs] => ssetB xs
  | [.tuple xs] => ssetB xs
  | _ => none
def rng1S : List D → Option M
  | [.int j] => if smallI j && decide (j ≤ 1000000) then some (.lst (rngD 0 j)) else none
  | _ => none
def rng2S : List D → Option M
  | [.int i, .int j] => if smallI i && smallI j && decide (j - i ≤ 1000000) then some (.lst (rngD i j)) else none
  | _ => none
def trng1S : List D → Option M
  | [.int j] => if smallI j && decide (j ≤ 1000000) then some (.d (.tuple (rngD 0 j))) else none
  | _ => none
def trng2S : List D → Option M
  | [.int i, .int j] => if smallI i && smallI j && decide (j - i ≤ 1000000) then some (.d (.tuple (rngD i j))) else none
  | _ => none
def opsem : Op → List D → Option M
  | .add => addS | .sub => subS | .mul => mulS | .fdiv => fdivS | .mod => modS | .pow => powS | .neg => negS
  | .lt => ltS | .le => leS | .gt => gtS | .ge => geS | .eq => eqS | .ne => neS | .is_ => isS | .isn => isnS | .in_ => inS | .nin => ninS
  | .len => lenS | .all => allS | .any => anyS | .sorted => sortedS | .tuple => tupleS | .list => listS
  | .abs => absS | .int => intS | .str => strS | .repr => reprS | .bool => boolS | .max2 => max2S | .min2 => min2S | .divmod => divmodS
  | .isi ts => isiS ts | .idx => idxS | .slice lo hi => sliceS lo hi | .rev => revS | .lrev => lrevS | .sset => ssetS | .rng1 => rng1S | .rng2 => rng2S | .trng1 => trng1S | .trng2 => trng2S
  | _ => fun _ => none

/-- an operand: a value at hand, or a slot (or a field of the object in it) that is read when the operation is done -/
inductive Opd where
  | v (m : M)
  | r (i : Nat)
  | f (i : Nat) (n : Nat)

inductive ItK where
  | seq | range1 | range2 | zip2
  deriving DecidableEq
inductive MOp where
  | append | extend | pop0 | pop1
  deriving DecidableEq
inductive Pl where
  | v (i : Nat)
  | f (i : Nat) (n : Nat)
  deriving DecidableEq

inductive CE where
  | var (i : Nat) | mv (i : Nat) | bor (i : Nat) | fbor (i n : Nat) | fld (i n : Nat)
  | cst (x : D) | glob (k : Nat)
  | tup (es : CE) | lst (es : CE) | edict
  | op (o : Op) (es : CE)
  | and (a b : CE) | or (a b : CE) | not (a : CE)
  | ite (c a b : CE) | chain (o p : Op) (a b c : CE)
  | comp (tg : List Nat) (k : ItK) (it cond elt : CE)
  | dcomp (tg : List Nat) (k : ItK) (it cond key val : CE)
  | call (f : Nat) (ps : Option (List Nat)) (es : CE)
  | make (c f : Nat) (es : CE)
  | meth (c f : Nat) (es : CE)
  | sset (es : CE)
  | mut (m : MOp) (i : Nat) (es : CE)
  | dict1 (k v : CE)
  | tst (e : CE)
  | nil | cons (e es : CE)
def CE.isBor : CE → Option Nat
  | .bor i => some i
  | _ => none
def CE.isFb : CE → Option (Nat × Nat)
  | .fbor i n => some (i, n)
  | _ => none

def fget (n : Nat) : List (Nat × M) → Option M
  | [] => none
  | (k, m) :: r => if k = n then some m else fget n r
def fput (n : Nat) (m : M) : List (Nat × M) → List (Nat × M)
  | [] => [(n, m)]
  | (k, u) :: r => if k = n then (k, m) :: r else (k, u) :: fput n m r

def getS (fr : Fr) (i : Nat) : Option M := (fr[i]?).bind id
def getP (fr : Fr) : Pl → Option M
  | .v i => getS fr i
  | .f i n => match getS fr i with
    | some (.ins _ fs) => fget n fs
    | _ => none
def setP (fr : Fr) (p : Pl) (m : M) : Fr := match p with
  | .v i => fr.set i (some m)
  | .f i n => match getS fr i with
    | some (.ins c fs) => fr.set i (some (.ins c (fput n m fs)))
    | _ => fr

/-- an operand, read as it stands -/
def Opd.rd (fr : Fr) : Opd → Option D
  | .v m => m.rd
  | .r i => (getS fr i).bind M.rd
  | .f i n => (getP fr (.f i n)).bind M.rd
/-- an operand, as data that never changes -/
def Opd.fz (fr : Fr) : Opd → Option D
  | .v m => m.fz
  | .r i => match getS fr i with
    | some (.d x) => some x
    | _ => none
  | .f _ _ => none
def rds (fr : Fr) : List Opd → Option (List D)
  | [] => some []
  | o :: r => (o.rd fr).bind fun x => (rds fr r).bind fun xs => some (x :: xs)

structure Ctx where
  cal : Nat → List M → R (M × Fr)
  glb : Nat → Option D
  pin : Nat → Bool
  fuel : Nat

def setS (C : Ctx) (fr : Fr) (i : Nat) (m : M) : R Fr := if C.pin i then .stuck else .ok (fr.set i (some m))
def setSs (C : Ctx) : List Nat → List D → Fr → R Fr
  | [], [], fr => .ok fr
  | i :: is, m :: ms, fr => (setS C fr i (.d m)).bind fun fr => setSs C is ms fr
  | _, _, _ => .stuck
/-- a target of names takes a datum -/
def take (C : Ctx) (tg : List Nat) (x : D) (fr : Fr) : R Fr := match tg with
  | [i] => setS C fr i (.d x)
  | _ => match x with
    | .tuple xs => setSs C tg xs fr
    | _ => .stuck

/-- the arguments of a call, lent -/
def lend : List Opd → Fr → Option (List M × Fr)
  | [], fr => some ([], fr)
  | .v m :: r, fr => (lend r fr).bind fun (ms, fr) => some (m :: ms, fr)
  | .r i :: r, fr => match getS fr i with
    | some (.d x) => (lend r fr).bind fun (ms, fr) => some (.d x :: ms, fr)
    | some m => (lend r (fr.set i none)).bind fun (ms, fr) => some (m :: ms, fr)
    | none => none
  | .f _ _ :: _, _ => none
/-- and given back -/
def back : List Opd → Fr → Fr → Fr
  | .r i :: r, p :: ps, fr => back r ps (match getS fr i with | none => fr.set i p | some _ => fr)
  | _ :: r, _ :: ps, fr => back r ps fr
  | _, _, fr => fr

def wipeF (fr : Fr) : List Nat → Fr
  | [] => fr
  | i :: r => (wipeF fr r).set i none
/-- the slots at own are as they were -/
def restore (fr fr0 : Fr) : List Nat → Fr
  | [] => fr
  | i :: r => (restore fr fr0 r).set i (getS fr0 i)
/-- these slots hold data, or nothing -/
def bare (fr : Fr) (own : List Nat) : Bool := own.all fun i => match getS fr i with
  | none => true
  | some (.d _) => true
  | _ => false

def zipD : List D → List D → List D
  | x :: xs, y :: ys => .tuple [x, y] :: zipD xs ys
  | _, _ => []
def iterD : ItK → List D → Option (List D)
  | .seq, [.list xs] => some xs
  | .seq, [.tuple xs] => some xs
  | .range1, [.int j] => if smallI j then some (rngD 0 j) else none
  | .range2, [.int i, .int j] => if smallI i && smallI j then some (rngD i j) else none
  | .zip2, [.tuple xs, .tuple ys] => some (zipD xs ys)
  | .zip2, [.list xs, .list ys] => some (zipD xs ys)
  | _, _ => none

/-- a comprehension's turns -/
def compN (own : List Nat) (turn : D → Fr → R (Option D × Fr)) : List D → Fr → R (List D × Fr)
  | [], fr => .ok ([], fr)
  | x :: r, fr => (turn x (wipeF fr own)).bind fun (o, fr) => (compN own turn r fr).bind fun (ds, fr) => .ok (match o with | some y => y :: ds | none => ds, fr)
def dcompN (own : List Nat) (turn : D → Fr → R (Option (D × D) × Fr)) : List D → List (D × D) → Fr → R (List (D × D) × Fr)
  | [], kvs, fr => .ok (kvs, fr)
  | x :: r, kvs, fr => (turn x (wipeF fr own)).bind fun (o, fr) => dcompN own turn r (match o with | some (k, v) => dput k v kvs | none => kvs) fr

/-- the list, the arguments: the list behind, the value -/
def mutV : MOp → List D → List D → Option (List D × D)
  | .append, xs, [x] => if xs.length < line then some (xs ++ [x], .none) else none
  | .pop0, xs, [] => (xs.getLast?).map fun x => (xs.dropLast, x)
  | .pop1, xs, [.int i] => if smallI i then (place i xs.length).bind fun k => (xs[k]?).map fun x => (xs.eraseIdx k, x) else none
  | _, _, _ => none

/-- nothing but reading -/
def pureE : CE → Bool
  | .bor _ => true
  | .fbor _ _ => true
  | .cst _ => true
  | .glob _ => true
  | .op _ es => pureE es
  | .nil => true
  | .cons e es => pureE e && pureE es
  | _ => false

section
variable (C : Ctx)
def pick (ps : Option (List Nat)) (os : List Opd) : Option (List Opd) := match ps with
  | none => some os
  | some p => p.mapM fun i => os[i]?
def callR (f : Nat) (ps : Option (List Nat)) (os : List Opd) (fr : Fr) : R (M × Fr) :=
  match pick ps os with
  | none => .stuck
  | some os => match lend os fr with
    | none => .stuck
    | some (ms, fr1) => match C.cal f ms with
      | .ok (r, out) => .ok (r, back os out fr1)
      | .exc e out => .exc e (back os out fr1)
      | .stuck => .stuck
def isIns (c : Nat) (fr : Fr) : List Opd → Bool
  | .r i :: _ => match getS fr i with
    | some (.ins c' _) => c == c'
    | _ => false
  | .v (.ins c' _) :: _ => c == c'
  | _ => false
def headIns (c : Nat) (fr : Fr) : CE → Bool
  | .cons e _ => match e.isBor with
    | some i => match getS fr i with
      | some (.ins c' _) => c == c'
      | _ => false
    | none => true
  | _ => false
mutual
def evE : CE → Fr → R (M × Fr)
  | .var i, fr => match getS fr i with
    | some (.d x) => .ok (.d x, fr)
    | some (.lst xs) => .ok (.d (.list xs), fr.set i (some (.d (.list xs))))
    | _ => .stuck
  | .mv i, fr => match getS fr i with
    | some (.d x) => .ok (.d x, fr)
    | some m => if C.pin i then .stuck else .ok (m, fr.set i none)
    | none => .stuck
  | .bor i, fr => match getS fr i with
    | some (.d x) => .ok (.d x, fr)
    | _ => .stuck
  | .fld i n, fr => match getP fr (.f i n) with
    | some (.d x) => .ok (.d x, fr)
    | _ => .stuck
  | .cst x, fr => .ok (.d x, fr)
  | .glob k, fr => match C.glb k with
    | some x => .ok (.d x, fr)
    | none => .stuck
  | .tup es, fr => (evVs es fr).bind fun (xs, fr) => .ok (.d (.tuple xs), fr)
  | .lst es, fr => (evVs es fr).bind fun (xs, fr) => .ok (.lst xs, fr)
  | .edict, fr => .ok (.dic [], fr)
  | .op o es, fr => (evOs es fr).bind fun (os, fr) => match rds fr os with
    | some ds => match opsem o ds with
      | some m => .ok (m, fr)
      | none => .stuck
    | none => .stuck
  | .and a b, fr => (evE a fr).bind fun (m, fr) => match m with
    | .d (.bool true) => evE b fr
    | .d (.bool false) => .ok (.d (.bool false), fr)
    | _ => .stuck
  | .or a b, fr => (evE a fr).bind fun (m, fr) => match m with
    | .d (.bool true) => .ok (.d (.bool true), fr)
    | .d (.bool false) => evE b fr
    | _ => .stuck
  | .not a, fr => (evE a fr).bind fun (m, fr) => match m with
    | .d (.bool b) => .ok (.d (.bool (!b)), fr)
    | _ => .stuck
  | .ite c a b, fr => (evT c fr).bind fun (t, fr) => if t then evE a fr else evE b fr
  | .chain o p a b c, fr => (evE a fr).bind fun (x, fr) => (evE b fr).bind fun (y, fr) => match x, y with
    | .d x, .d y => match opsem o [x, y] with
      | some (.d (.bool true)) => (evE c fr).bind fun (z, fr) => match z with
        | .d z => match opsem p [y, z] with
          | some (.d (.bool t)) => .ok (.d (.bool t), fr)
          | _ => .stuck
        | _ => .stuck
      | some (.d (.bool false)) => .ok (.d (.bool false), fr)
      | _ => .stuck
    | _, _ => .stuck
  | .comp tg k it cond elt, fr => (evVs it fr).bind fun (os, fr) => match iterD k os with
    | none => .stuck
    | some ds => if tg.any C.pin || !bare fr tg then .stuck else
      (compN tg (fun x fr => (take C tg x fr).bind fun fr => (evT cond fr).bind fun (t, fr) =>
        if t then (evE elt fr).bind fun (m, fr) => match m.fz with | some y => .ok (some y, fr) | none => .stuck else .ok (none, fr)) ds fr).bind fun (ys, fr1) =>
      if ys.length ≤ line then .ok (.lst ys, restore fr1 fr tg) else .stuck
  | .dcomp tg k it cond key val, fr => (evVs it fr).bind fun (os, fr) => match iterD k os with
    | none => .stuck
    | some ds => if tg.any C.pin || !bare fr tg then .stuck else
      (dcompN tg (fun x fr => (take C tg x fr).bind fun fr => (evT cond fr).bind fun (t, fr) =>
        if t then (evE key fr).bind fun (a, fr) => (evE val fr).bind fun (b, fr) => match a.fz, b.fz with
          | some a, some b => .ok (some (a, b), fr)
          | _, _ => .stuck
        else .ok (none, fr)) ds [] fr).bind fun (kvs, fr1) =>
      if keysOk 1 kvs || keysOk 2 kvs then .ok (.dic kvs, restore fr1 fr tg) else .stuck
  | .call f ps es, fr => (evOs es fr).bind fun (os, fr) => callR C f ps os fr
  | .meth c f es, fr => if headIns c fr es then (evOs es fr).bind fun (os, fr) => if isIns c fr os then callR C f none os fr else .stuck else .stuck
  | .make c f es, fr => (evOs es fr).bind fun (os, fr) => match lend os fr with
    | none => .stuck
    | some (ms, fr1) => match C.cal f (.ins c [] :: ms) with
      | .ok (.d .none, some self :: out) => .ok (self, back os out fr1)
      | _ => .stuck
  | .sset es, fr => (evOs es fr).bind fun (os, fr) => match rds fr os with
    | some [.list xs] => if keysOk 2 (xs.map fun x => (x, .none)) && okds xs && sortable (uniq [] xs) && decide (xs.length < 1000) then .ok (.lst (sortD (uniq [] xs)), fr) else .stuck
    | _ => .stuck
  | .mut m i es, fr => match getS fr i with
    | some (.lst _) => if m = .extend then
        (evOs es fr).bind fun (os, fr) => match os, getS fr i with
          | [.v (.lst ys)], some (.lst xs) => if xs.length + ys.length ≤ line then .ok (.d .none, fr.set i (some (.lst (xs ++ ys)))) else .stuck
          | _, _ => .stuck
      else (evVs es fr).bind fun (ys, fr) => match getS fr i with
        | some (.lst xs) => match mutV m xs ys with
          | some (zs, r) => .ok (.d r, fr.set i (some (.lst zs)))
          | none => .stuck
        | _ => .stuck
    | _ => .stuck
  | .dict1 k v, fr => (evE k fr).bind fun (a, fr) => (evE v fr).bind fun (b, fr) => match a, b with
    | .d a, .d b => if keyKind a = 1 then .ok (.dic [(a, b)], fr) else .stuck
    | _, _ => .stuck
  | _, _ => .stuck
def evT : CE → Fr → R (Bool × Fr)
  | .nil, fr => .ok (true, fr)
  | .and a b, fr => (evT a fr).bind fun (t, fr) => if t then evT b fr else .ok (false, fr)
  | .or a b, fr => (evT a fr).bind fun (t, fr) => if t then .ok (true, fr) else evT b fr
  | .not a, fr => (evT a fr).bind fun (t, fr) => .ok (!t, fr)
  | .tst e, fr => (evE e fr).bind fun (m, fr) => match m with
    | .d (.bool b) => .ok (b, fr)
    | _ => .stuck
  | _, _ => .stuck
def evVs : CE → Fr → R (List D × Fr)
  | .nil, fr => .ok ([], fr)
  | .cons e es, fr => (evE e fr).bind fun (m, fr) => match m.fz with
    | some x => (evVs es fr).bind fun (xs, fr) => .ok (x :: xs, fr)
    | none => .stuck
  | _, _ => .stuck
def evOs : CE → Fr → R (List Opd × Fr)
  | .nil, fr => .ok ([], fr)
  | .cons e es, fr => match e.isBor with
    | some i => match getS fr i with
      | some _ => (evOs es fr).bind fun (os, fr) => .ok (.r i :: os, fr)
      | none => .stuck
    | none => match e.isFb with
      | some (i, n) => if (getP fr (.f i n)).isSome && pureE es then (evOs es fr).bind fun (os, fr) => .ok (.f i n :: os, fr) else .stuck
      | none => (evE e fr).bind fun (m, fr) => (evOs es fr).bind fun (os, fr) => .ok (.v m :: os, fr)
  | _, _ => .stuck
termination_by structural e => e
end
end

/-! ### statements -/
inductive Tg where
  | v (i : Nat)
  | s (p : Pl) (k : D)
inductive CS where
  | nil | cons (s r : CS)
  | asg (i : Nat) (e : CE)
  | par (tg : List Nat) (es : CE)
  | unp (tg : List Tg) (e : CE)
  | aug (i : Nat) (o : Op) (e : CE)
  | sto (p : Pl) (k v : CE)
  | augsto (i : Nat) (k : CE) (o : Op) (e : CE)
  | never
  | fsto (i n : Nat) (e : CE)
  | ex (e : CE) | ret (e : CE) | retn
  | ite (c : CE) (a b : CS)
  | whl (c : CE) (b : CS)
  | loop (tg : List Nat) (k : ItK) (it : CE) (b : CS)
  | brk | cnt | pass
inductive Out where
  | next (fr : Fr)
  | ret (m : M) (fr : Fr)
  | brk (fr : Fr)
  | cnt (fr : Fr)
/-- c[k] = v -/
def storeM : M → D → D → Option M
  | .lst xs, .int i, x => (place i xs.length).map fun k => .lst (xs.set k x)
  | .dic kvs, k, x => if keyed k kvs && decide (kvs.length < line) then some (.dic (dput k x kvs)) else none
  | _, _, _ => none
/-- what a field may hold -/
def isFl : M → Bool
  | .d _ => true
  | .lst _ => true
  | .dic _ => true
  | _ => false
/-- a list or a dict stands there -/
def isCon (p : Pl) (fr : Fr) : Bool := match getP fr p with
  | some (.lst _) => true
  | some (.dic _) => true
  | _ => false
def isV : Pl → Bool
  | .v _ => true
  | _ => false
def storeP (fr : Fr) (p : Pl) (k x : D) : R Fr := match (getP fr p).bind fun c => storeM c k x with
  | some c => .ok (setP fr p c)
  | none => .stuck
section
variable (C : Ctx)
def setMs : List Nat → List Opd → Fr → R Fr
  | [], [], fr => .ok fr
  | i :: is, .v m :: os, fr => (setS C fr i m).bind fun fr => setMs is os fr
  | _, _, _ => .stuck
def augI : Op → D → D → Option D
  | .add, .int i, .int j => some (.int (i + j))
  | .sub, .int i, .int j => some (.int (i - j))
  | .mul, .int i, .int j => if mulOk i j then some (.int (i * j)) else none
  | .fdiv, .int i, .int j => if 0 < j ∧ j < 1073741824 then some (.int (i / j)) else none
  | _, _, _ => none
def tgs : List Tg → List D → Fr → R Fr
  | [], [], fr => .ok fr
  | .v i :: ts, x :: xs, fr => (setS C fr i (.d x)).bind fun fr => tgs ts xs fr
  | .s p k :: ts, x :: xs, fr => (storeP fr p k x).bind fun fr => tgs ts xs fr
  | _, _, _ => .stuck
def forN (turn : D → Fr → R Out) : List D → Fr → R Out
  | [], fr => .ok (.next fr)
  | x :: r, fr => (turn x fr).bind fun o => match o with
    | .next fr => forN turn r fr
    | .cnt fr => forN turn r fr
    | .brk fr => .ok (.next fr)
    | .ret m fr => .ok (.ret m fr)
def whlN (c : Fr → R (Bool × Fr)) (turn : Fr → R Out) : Nat → Fr → R Out
  | 0, _ => .stuck
  | n + 1, fr => (c fr).bind fun (t, fr) => if t then (turn fr).bind fun o => match o with
    | .next fr => whlN c turn n fr
    | .cnt fr => whlN c turn n fr
    | .brk fr => .ok (.next fr)
    | .ret m fr => .ok (.ret m fr)
    else .ok (.next fr)
def exS : CS → Fr → R Out
  | .nil, fr => .ok (.next fr)
  | .cons s r, fr => (exS s fr).bind fun o => match o with
    | .next fr => exS r fr
    | o => .ok o
  | .asg i e, fr => (evE C e fr).bind fun (m, fr) => (setS C fr i m).bind fun fr => .ok (.next fr)
  | .par tg es, fr => (evOs C es fr).bind fun (os, fr) => (setMs C tg os fr).bind fun fr => .ok (.next fr)
  | .unp tg e, fr => (evE C e fr).bind fun (m, fr) => match m with
    | .d (.tuple xs) => (tgs C tg xs fr).bind fun fr => .ok (.next fr)
    | _ => .stuck
  | .aug i o e, fr => if (getS fr i).isSome then (evE C e fr).bind fun (m, fr) => match getS fr i, m with
    | some (.d x), .d y => match augI o x y with
      | some z => (setS C fr i (.d z)).bind fun fr => .ok (.next fr)
      | none => .stuck
    | _, _ => .stuck
    else .stuck
  | .sto p k v, fr => (evE C v fr).bind fun (m, fr) => match m.fz with
    | none => .stuck
    | some x => if isCon p fr && (isV p || pureE k) then (evE C k fr).bind fun (mk, fr) => match mk with
      | .d k => (storeP fr p k x).bind fun fr => .ok (.next fr)
      | _ => .stuck
      else .stuck
  | .augsto i k o e, fr => if isCon (.v i) fr && pureE e then (evE C k fr).bind fun (mk, fr) => match mk, (getS fr i).bind M.rd with
    | .d k, some c => match idxS [c, k] with
      | some (.d x) => (evE C e fr).bind fun (my, fr) => match my with
        | .d y => match augI o x y with
          | some z => (storeP fr (.v i) k z).bind fun fr => .ok (.next fr)
          | none => .stuck
        | _ => .stuck
      | _ => .stuck
    | _, _ => .stuck
    else .stuck
  | .fsto i n e, fr => (evE C e fr).bind fun (m, fr) => match getS fr i with
    | some (.ins c fs) => if isFl m && decide (fs.length < 900) then .ok (.next (fr.set i (some (.ins c (fput n m fs))))) else .stuck
    | _ => .stuck
  | .ex e, fr => (evE C e fr).bind fun (_, fr) => .ok (.next fr)
  | .ret e, fr => (evE C e fr).bind fun (m, fr) => .ok (.ret m fr)
  | .retn, fr => .ok (.ret (.d .none) fr)
  | .ite c a b, fr => (evT C c fr).bind fun (t, fr) => if t then exS a fr else exS b fr
  | .whl c b, fr => whlN (evT C c) (exS b) C.fuel fr
  | .loop tg k it b, fr => (evVs C it fr).bind fun (os, fr) => match iterD k os with
    | none => .stuck
    | some ds => forN (fun x fr => (take C tg x fr).bind fun fr => exS b fr) ds fr
  | .brk, fr => .ok (.brk fr)
  | .cnt, fr => .ok (.cnt fr)
  | .pass, fr => .ok (.next fr)
  | .never, _ => .stuck
end
structure Fn where
  ps : Nat
  many : Nat
  pin : List Nat
  body : CS
def outs (fn : Fn) (fr : Fr) : Fr := (List.range fn.ps).map fun k => if fn.pin.contains k then getS fr k else none
def callN (T : Nat → Option Fn) (glb : Nat → Option D) (fuel : Nat) : Nat → Nat → List M → R (M × Fr)
  | 0, _, _ => .stuck
  | n + 1, f, ms => match T f with
    | none => .stuck
    | some fn => if ms.length = fn.ps then
        match exS ⟨callN T glb fuel n, glb, fn.pin.contains, fuel⟩ fn.body (ms.map some ++ List.replicate (fn.many - fn.ps) none) with
        | .ok (.ret m fr) => .ok (m, outs fn fr)
        | .ok (.next fr) => .ok (.d .none, outs fn fr)
        | .exc e fr => .exc e (outs fn fr)
        | _ => .stuck
      else .stuck
end Mn
/-! Mn, part B: how the machine's things lie in the heap. -/
namespace Mn
open PySem L2

abbrev AS := Addr → Prop
def noA : AS := fun _ => False
/-- from H to H' only what is in W may change; what is in W' was in W, or is new -/
def Step (H : Hp) (W : AS) (H' : Hp) (W' : AS) : Prop := (∀ a o, H a = some o → ¬ W a → H' a = some o) ∧ ∀ a, W' a → W a ∨ H a = none
theorem Step.refl (H : Hp) (W : AS) : Step H W H W := ⟨fun _ _ h _ => h, fun _ h => .inl h⟩
theorem Step.trans {H H1 H2 : Hp} {W W1 W2 : AS} (s : Step H W H1 W1) (t : Step H1 W1 H2 W2) : Step H W H2 W2 := by
  have out : ∀ a o, H a = some o → ¬ W a → ¬ W1 a := fun a o h n m => by
    rcases s.2 a m with z | z
    · exact n z
    · rw [h] at z; cases z
  refine ⟨fun a o h n => t.1 a o (s.1 a o h n) (out a o h n), fun a h => ?_⟩
  rcases t.2 a h with z | z
  · exact s.2 a z
  · cases q : H a with
    | none => exact .inr rfl
    | some o =>
      by_cases n : W a
      · exact .inl n
      · rw [s.1 a o q n] at z; cases z
theorem Step.sub {H H' : Hp} {W W1 W' W1' : AS} (s : Step H W H' W') (h : ∀ a, W a → W1 a) (h' : ∀ a, W1' a → W' a) : Step H W1 H' W1' :=
  ⟨fun a o e n => s.1 a o e fun z => n (h a z), fun a z => (s.2 a (h' a z)).imp (h a) id⟩
/-- what one does not write may be added on both sides -/
theorem Step.frame {H H' : Hp} {W W' : AS} (G : AS) (s : Step H W H' W') : Step H (fun a => W a ∨ G a) H' (fun a => W' a ∨ G a) :=
  ⟨fun a o e n => s.1 a o e fun z => n (.inl z), fun a z => z.elim (fun q => (s.2 a q).imp .inl id) fun q => .inl (.inr q)⟩

/-- a list that stays as it is -/
def FzL (K : PySem.W.Frag) (H : Hp) (a : Addr) (xs : List V) : Prop :=
  (∃ o, H a = some (.frz o (.lst xs))) ∨
    ∃ (its : Array Value) (n : Nat), K.lookup a = some { cls := .type "list", data := .seq its n } ∧ its.size ≤ sizeLine ∧ Vals xs its.toList
theorem FzL.sq {K : PySem.W.Frag} {H : Hp} {a : Addr} {xs : List V} (h : FzL K H a xs) : SqL K H a xs :=
  h.elim (fun ⟨o, e⟩ => .inl (.inr ⟨o, e⟩)) fun ⟨its, n, e, z, r⟩ => .inr ⟨_, its, n, e, rfl, rfl, rfl, z, r⟩

section
variable (K : PySem.W.Frag) (H : Hp) (A : AS)
mutual
/-- v stands for the datum, for good; none of its lists and tuples is in A -/
inductive Rp : V → D → Prop
  | none : Rp .non .none
  | bool (b : Bool) : Rp (.bl b) (.bool b)
  | int (i : Int) : Rp (.int i) (.int i)
  | str (x : Str) : Rp (.str x) (.str x)
  | tup {a : Addr} {xs : List V} {ds : List D} : H a = some (.tup xs) → ¬ A a → RpAll xs ds → Rp (.ref a) (.tuple ds)
  | lst {a : Addr} {xs : List V} {ds : List D} : FzL K H a xs → ¬ A a → RpAll xs ds → Rp (.ref a) (.list ds)
inductive RpAll : List V → List D → Prop
  | nil : RpAll [] []
  | cons {v : V} {d : D} {vs : List V} {ds : List D} : Rp v d → RpAll vs ds → RpAll (v :: vs) (d :: ds)
end
end
section
variable {K : PySem.W.Frag} {H H' : Hp} {A A' W W' : AS}
theorem SqT.stay {a : Addr} {xs : List V} (h : SqT K H a xs) (k : ∀ o, H a = some o → H' a = some o) : SqT K H' a xs := by
  rcases h with (h | ⟨ob, h⟩) | h
  · exact .inl (.inl (k _ h))
  · exact .inl (.inr ⟨ob, k _ h⟩)
  · exact .inr h
theorem FzL.stay {a : Addr} {xs : List V} (h : FzL K H a xs) (k : ∀ o, H a = some o → H' a = some o) : FzL K H' a xs := by
  rcases h with ⟨o, h⟩ | h
  · exact .inl ⟨o, k _ h⟩
  · exact .inr h
/-- K's own objects are not in A: A is tracked -/
def Trk (K : PySem.W.Frag) (H : Hp) : Prop := ∀ a o, K.lookup a = some o → H a = none
mutual
theorem Rp.step : ∀ {v : V} {d : D}, Rp K H A v d → (∀ a o, K.lookup a = some o → ¬ W' a) → Step H W H' W' → (∀ a, W a → A a) → (∀ a, A' a → A a ∨ W' a) → Rp K H' A' v d
  | _, _, .none, _, _, _, _ => .none
  | _, _, .bool b, _, _, _, _ => .bool b
  | _, _, .int i, _, _, _, _ => .int i
  | _, _, .str x, _, _, _, _ => .str x
  | _, _, .tup (a := a) h n r, kk, s, wa, aa => by
    refine .tup (s.1 a _ h fun z => n (wa a z)) (fun z => ?_) (RpAll.step r kk s wa aa)
    rcases aa a z with z | z
    · exact n z
    · rcases s.2 a z with q | q
      · exact n (wa a q)
      · rw [h] at q; cases q
  | _, _, .lst (a := a) h n r, kk, s, wa, aa => by
    refine .lst (FzL.stay h fun o e => s.1 a o e fun z => n (wa a z)) (fun z => ?_) (RpAll.step r kk s wa aa)
    rcases aa a z with z | z
    · exact n z
    · rcases s.2 a z with q | q
      · exact n (wa a q)
      · rcases h with ⟨o, h⟩ | ⟨_, _, h, _⟩
        · rw [h] at q; cases q
        · exact kk a _ h z
theorem RpAll.step : ∀ {vs : List V} {ds : List D}, RpAll K H A vs ds → (∀ a o, K.lookup a = some o → ¬ W' a) → Step H W H' W' → (∀ a, W a → A a) → (∀ a, A' a → A a ∨ W' a) → RpAll K H' A' vs ds
  | _, _, .nil, _, _, _, _ => .nil
  | _, _, .cons h t, kk, s, wa, aa => .cons (Rp.step h kk s wa aa) (RpAll.step t kk s wa aa)
end
theorem RpAll.length : ∀ {vs : List V} {ds : List D}, RpAll K H A vs ds → vs.length = ds.length
  | _, _, .nil => rfl
  | _, _, .cons _ t => by rw [List.length_cons, List.length_cons, RpAll.length t]
theorem RpAll.append : ∀ {vs ws : List V} {ds es : List D}, RpAll K H A vs ds → RpAll K H A ws es → RpAll K H A (vs ++ ws) (ds ++ es)
  | _, _, _, _, .nil, s => s
  | _, _, _, _, .cons h t, s => .cons h (RpAll.append t s)
theorem RpAll.get : ∀ {vs : List V} {ds : List D} {i : Nat} {d : D}, RpAll K H A vs ds → ds[i]? = some d → ∃ v, vs[i]? = some v ∧ Rp K H A v d
  | _, _, _, _, .nil, none_ => by simp at none_
  | _, _, 0, _, .cons h _, e => by simp at e; subst e; exact ⟨_, rfl, h⟩
  | _, _, i + 1, _, .cons _ t, e => by simpa using RpAll.get (i := i) t (by simpa using e)
theorem RpAll.get' : ∀ {vs : List V} {ds : List D} {i : Nat} {v : V}, RpAll K H A vs ds → vs[i]? = some v → ∃ d, ds[i]? = some d ∧ Rp K H A v d
  | _, _, _, _, .nil, none_ => by simp at none_
  | _, _, 0, _, .cons h _, e => by simp at e; subst e; exact ⟨_, rfl, h⟩
  | _, _, i + 1, _, .cons _ t, e => by simpa using RpAll.get' (i := i) t (by simpa using e)
theorem RpAll.take : ∀ {vs : List V} {ds : List D} (n : Nat), RpAll K H A vs ds → RpAll K H A (vs.take n) (ds.take n)
  | _, _, 0, _ => .nil
  | _, _, _ + 1, .nil => .nil
  | _, _, n + 1, .cons h t => .cons h (RpAll.take n t)
theorem RpAll.drop : ∀ {vs : List V} {ds : List D} (n : Nat), RpAll K H A vs ds → RpAll K H A (vs.drop n) (ds.drop n)
  | _, _, 0, r => r
  | _, _, _ + 1, .nil => .nil
  | _, _, n + 1, .cons _ t => RpAll.drop n t
theorem RpAll.reverse : ∀ {vs : List V} {ds : List D}, RpAll K H A vs ds → RpAll K H A vs.reverse ds.reverse
  | _, _, .nil => .nil
  | _, _, .cons h t => by rw [List.reverse_cons, List.reverse_cons]; exact (RpAll.reverse t).append (.cons h .nil)
theorem RpAll.erase : ∀ {vs : List V} {ds : List D} (n : Nat), RpAll K H A vs ds → RpAll K H A (vs.eraseIdx n) (ds.eraseIdx n)
  | _, _, _, .nil => .nil
  | _, _, 0, .cons _ t => t
  | _, _, n + 1, .cons h t => .cons h (RpAll.erase n t)
theorem RpAll.ints : ∀ (ns : List Int), RpAll K H A (ns.map V.int) (ns.map PyData.int)
  | [] => .nil
  | n :: r => .cons (.int n) (RpAll.ints r)
theorem RpAll.dropLast {vs : List V} {ds : List D} (h : RpAll K H A vs ds) : RpAll K H A vs.dropLast ds.dropLast := by
  rw [List.dropLast_eq_take, List.dropLast_eq_take, h.length]; exact h.take _
end

/-- a dict's keys -/
def keyD : D → Option Key
  | .int i => some (.inl i)
  | .str x => some (.inr x)
  | _ => none
def keysD : D → Option (List Key)
  | .tuple xs => xs.mapM keyD
  | _ => none
/-- entries: keys ints, texts -/
inductive EntK (K : PySem.W.Frag) (H : Hp) (A : AS) : List (Key × V) → List (D × D) → Prop
  | nil : EntK K H A [] []
  | cons {k : Key} {v : V} {a x : D} {kvs : List (Key × V)} {ds : List (D × D)} : keyD a = some k → Rp K H A v x → EntK K H A kvs ds → EntK K H A ((k, v) :: kvs) ((a, x) :: ds)
/-- entries: keys tuples of ints, texts -/
inductive EntT (K : PySem.W.Frag) (H : Hp) (A : AS) : List (List Key × V) → List (D × D) → Prop
  | nil : EntT K H A [] []
  | cons {k : List Key} {v : V} {a x : D} {kvs : List (List Key × V)} {ds : List (D × D)} : keysD a = some k → Rp K H A v x → EntT K H A kvs ds → EntT K H A ((k, v) :: kvs) ((a, x) :: ds)

section
variable {K : PySem.W.Frag} {H H' : Hp} {A A' W W' : AS}
theorem EntK.step : ∀ {kvs : List (Key × V)} {ds : List (D × D)}, EntK K H A kvs ds → (∀ a o, K.lookup a = some o → ¬ W' a) → Step H W H' W' → (∀ a, W a → A a) → (∀ a, A' a → A a ∨ W' a) → EntK K H' A' kvs ds
  | _, _, .nil, _, _, _, _ => .nil
  | _, _, .cons h r t, kk, s, wa, aa => .cons h (r.step kk s wa aa) (EntK.step t kk s wa aa)
theorem EntT.step : ∀ {kvs : List (List Key × V)} {ds : List (D × D)}, EntT K H A kvs ds → (∀ a o, K.lookup a = some o → ¬ W' a) → Step H W H' W' → (∀ a, W a → A a) → (∀ a, A' a → A a ∨ W' a) → EntT K H' A' kvs ds
  | _, _, .nil, _, _, _, _ => .nil
  | _, _, .cons h r t, kk, s, wa, aa => .cons h (r.step kk s wa aa) (EntT.step t kk s wa aa)
theorem EntK.length : ∀ {kvs : List (Key × V)} {ds : List (D × D)}, EntK K H A kvs ds → kvs.length = ds.length
  | _, _, .nil => rfl
  | _, _, .cons _ _ t => by rw [List.length_cons, List.length_cons, EntK.length t]
theorem EntT.length : ∀ {kvs : List (List Key × V)} {ds : List (D × D)}, EntT K H A kvs ds → kvs.length = ds.length
  | _, _, .nil => rfl
  | _, _, .cons _ _ t => by rw [List.length_cons, List.length_cons, EntT.length t]
end

/-- what the program's names stand for -/
structure PC where
  cls : Nat → Addr
  fnm : Nat → Str
  kn : Nat → Bool

/-- v stands for m, which owns fp; what never changes avoids A -/
inductive M0 (K : PySem.W.Frag) (H : Hp) (A : AS) : V → M → AS → Prop
  | d {v : V} {x : D} {fp : AS} : Rp K H A v x → (∀ a, ¬ fp a) → M0 K H A v (.d x) fp
  | lst {a : Addr} {xs : List V} {ds : List D} {fp : AS} : H a = some (.lst xs) → RpAll K H A xs ds → (∀ b, fp b ↔ b = a) → M0 K H A (.ref a) (.lst ds) fp
  | lck {a : Addr} {o : Obj} {xs : List V} {ds : List D} {fp : AS} : H a = some (.frz o (.lst xs)) → RpAll K H A xs ds → (∀ b, fp b ↔ b = a) → M0 K H A (.ref a) (.lck ds) fp
  | dicK {a : Addr} {kvs : List (Key × V)} {ds : List (D × D)} {fp : AS} : H a = some (.dK kvs) → EntK K H A kvs ds → (∀ b, fp b ↔ b = a) → M0 K H A (.ref a) (.dic ds) fp
  | dicT {a : Addr} {kvs : List (List Key × V)} {ds : List (D × D)} {fp : AS} : H a = some (.dT kvs) → EntT K H A kvs ds → (∀ b, fp b ↔ b = a) → M0 K H A (.ref a) (.dic ds) fp
structure Flds (p : PC) (K : PySem.W.Frag) (H : Hp) (A : AS) (fsV : List (Str × V)) (fs : List (Nat × M)) (fo : Nat → AS) : Prop where
  has : ∀ n m, fget n fs = some m → ∃ v, fsV.lookup (p.fnm n) = some v ∧ M0 K H A v m (fo n)
  no : ∀ n, fget n fs = none → ∀ a, ¬ fo n a
  only : ∀ x v, fsV.lookup x = some v → ∃ n, x = p.fnm n ∧ fget n fs ≠ none
  disj : ∀ i j a, fo i a → fo j a → i = j
  few : fsV.length ≤ fs.length
  kn : ∀ n m, fget n fs = some m → p.kn n = true
inductive MR (p : PC) (K : PySem.W.Frag) (H : Hp) (A : AS) : V → M → AS → Prop
  | b {v : V} {m : M} {fp : AS} : M0 K H A v m fp → MR p K H A v m fp
  | ins {a dx : Addr} {c : Nat} {fsV : List (Str × V)} {fs : List (Nat × M)} {fo : Nat → AS} {fp : AS} : H a = some (.ins (p.cls c) dx fsV) → Flds p K H A fsV fs fo → (∀ n, ¬ fo n a) → (∀ b, fp b ↔ b = a ∨ ∃ n, fo n b) → MR p K H A (.ref a) (.ins c fs) fp

section
variable {p : PC} {K : PySem.W.Frag} {H H' : Hp} {A A' W W' : AS}
theorem M0.step {v : V} {m : M} {fp : AS} (h : M0 K H A v m fp) (kk : ∀ a o, K.lookup a = some o → ¬ W' a) (s : Step H W H' W') (wa : ∀ a, W a → A a) (aa : ∀ a, A' a → A a ∨ W' a) (dj : ∀ a, fp a → ¬ W a) : M0 K H' A' v m fp := by
  cases h with
  | d r n => exact .d (r.step kk s wa aa) n
  | lst e r f => exact .lst (s.1 _ _ e (dj _ ((f _).mpr rfl))) (r.step kk s wa aa) f
  | lck e r f => exact .lck (s.1 _ _ e (dj _ ((f _).mpr rfl))) (r.step kk s wa aa) f
  | dicK e r f => exact .dicK (s.1 _ _ e (dj _ ((f _).mpr rfl))) (r.step kk s wa aa) f
  | dicT e r f => exact .dicT (s.1 _ _ e (dj _ ((f _).mpr rfl))) (r.step kk s wa aa) f
theorem M0.trk {v : V} {m : M} {fp : AS} (h : M0 K H A v m fp) : ∀ a, fp a → H a ≠ none := fun a ha => by
  cases h with
  | d r n => exact (n a ha).elim
  | lst e r f => rw [(f a).mp ha, e]; simp
  | lck e r f => rw [(f a).mp ha, e]; simp
  | dicK e r f => rw [(f a).mp ha, e]; simp
  | dicT e r f => rw [(f a).mp ha, e]; simp
theorem MR.step {v : V} {m : M} {fp : AS} (h : MR p K H A v m fp) (kk : ∀ a o, K.lookup a = some o → ¬ W' a) (s : Step H W H' W') (wa : ∀ a, W a → A a) (aa : ∀ a, A' a → A a ∨ W' a) (dj : ∀ a, fp a → ¬ W a) : MR p K H' A' v m fp := by
  cases h with
  | b h => exact .b (h.step kk s wa aa dj)
  | ins e f n q =>
    refine .ins (s.1 _ _ e (dj _ ((q _).mpr (.inl rfl)))) ⟨fun i m hm => ?_, f.no, f.only, f.disj, f.few, f.kn⟩ n q
    obtain ⟨v, h1, h2⟩ := f.has i m hm
    exact ⟨v, h1, h2.step kk s wa aa fun a z => dj a ((q a).mpr (.inr ⟨i, z⟩))⟩
theorem MR.trk {v : V} {m : M} {fp : AS} (h : MR p K H A v m fp) : ∀ a, fp a → H a ≠ none := fun a ha => by
  cases h with
  | b h => exact h.trk a ha
  | ins e f n q =>
    rcases (q a).mp ha with rfl | ⟨i, hi⟩
    · rw [e]; simp
    · rename_i fs fo
      cases g : fget i fs with
      | none => exact (f.no i g a hi).elim
      | some m => obtain ⟨v, _, h2⟩ := f.has i m g; exact h2.trk a hi
theorem MR.imp {v : V} {m : M} {fp : AS} (h : MR p K H A v m fp) (aa : ∀ a, A' a → A a) : MR p K H A' v m fp :=
  h.step (W := noA) (W' := noA) (fun _ _ _ z => z) (Step.refl H noA) (fun _ z => z.elim) (fun a z => .inl (aa a z)) fun _ _ z => z
theorem Rp.imp {v : V} {d : D} (h : Rp K H A v d) (aa : ∀ a, A' a → A a) : Rp K H A' v d :=
  h.step (W := noA) (W' := noA) (fun _ _ _ z => z) (Step.refl H noA) (fun _ z => z.elim) (fun a z => .inl (aa a z))
theorem RpAll.imp {v : List V} {d : List D} (h : RpAll K H A v d) (aa : ∀ a, A' a → A a) : RpAll K H A' v d :=
  h.step (W := noA) (W' := noA) (fun _ _ _ z => z) (Step.refl H noA) (fun _ z => z.elim) (fun a z => .inl (aa a z))
/-- footprints are told up to what is in them -/
theorem MR.fp {v : V} {m : M} {fp fp' : AS} (h : MR p K H A v m fp) (e : ∀ a, fp' a ↔ fp a) : MR p K H A v m fp' := by
  have : fp' = fp := funext fun a => propext (e a)
  rw [this]; exact h
end

/-! ### read off the real heap -/
section
variable {X : Cx} {pins : List (Addr × Obj)} {σ : St} {H : Hp} {s : Shared} {A : AS}
mutual
theorem Rp.reads (I : Inv X pins σ H s) : ∀ {v : V} {d : D} {u : Value}, Rp X.K H A v d → RelV v u → ∃ as, Reads s.heap u d as
  | _, _, _, .none, r => by cases r; exact ⟨_, .none⟩
  | _, _, _, .bool b, r => by cases r; exact ⟨_, .bool b⟩
  | _, _, _, .int i, r => by obtain ⟨t, rfl⟩ := r; exact ⟨_, .int i t⟩
  | _, _, _, .str x, r => by obtain ⟨t, rfl⟩ := r; exact ⟨_, .str x t⟩
  | _, _, _, .tup h _ q, r => by
    cases r
    obtain ⟨its, rv, ⟨o, e, c, n, dd⟩, _⟩ := I.tuple (SqT.of h)
    obtain ⟨as, ra⟩ := RpAll.reads I q rv
    exact ⟨_, .tuple e c dd ra⟩
  | _, _, _, .lst h _ q, r => by
    cases r
    obtain ⟨its, rv, ⟨o, n, e, c, _, dd⟩, _⟩ := I.list h.sq
    obtain ⟨as, ra⟩ := RpAll.reads I q rv
    exact ⟨_, .list e c dd ra⟩
theorem RpAll.reads (I : Inv X pins σ H s) : ∀ {vs : List V} {ds : List D} {us : List Value}, RpAll X.K H A vs ds → Vals vs us → ∃ as, ReadsAll s.heap us ds as
  | _, _, _, .nil, r => by cases r; exact ⟨_, .nil⟩
  | _, _, _, .cons h t, r => by
    cases r with
    | cons r1 r2 =>
      obtain ⟨as, ra⟩ := Rp.reads I h r1
      obtain ⟨bs, rb⟩ := RpAll.reads I t r2
      exact ⟨_, .cons ra rb⟩
end
end
end Mn
/-! Mn, part C: what the model's operations do with things that stand for data. -/
namespace Mn
open PySem L2 PySem.Spec
open PyProof.Rows hiding St

/-- K's own objects are never tracked -/
def KT (K : PySem.W.Frag) (H : Hp) : Prop := ∀ a o, K.lookup a = some o → H a = none
section
variable {X : Cx} {pins : List (Addr × Obj)} {σ : L2.St} {H : Hp} {s s' : Shared} {A : AS} {p : PC}
theorem kt_of (I : Inv X pins σ H s) : KT X.K H := fun a o e => (I.bs a o (I.ok.mod.kin a o e)).2
theorem ep_kt {Q : VK} {u : Value} (h : EP X pins σ (fun v H' => KT X.K H' → Q v H') u s') : EP X pins σ Q u s' := by
  obtain ⟨v, H', I, r, q⟩ := h
  exact ⟨v, H', I, r, q (kt_of I)⟩
/-- a list is frozen -/
theorem inv_frz {a : Addr} {xs : List V} (I : Inv X pins σ H s) (e : H a = some (.lst xs)) : ∃ o : Obj, (∀ o' u, X.H_0 a ≠ some (.frz o' u)) ∧ Inv X pins σ (upd H a (.frz o (.lst xs))) s := by
  obtain ⟨z, its, n, r, ho⟩ := I.hok a _ e
  refine ⟨{ cls := .type "list", data := .seq its.toArray n }, fun o' u q => ?_, ?_⟩
  · rw [I.base.frzs a o' u q] at e; cases e
  · exact I.write (x := a) (e := a) (o := .frz _ (.lst xs)) (t' := s.toks) (by rw [e]; exact True.intro) (.inl rfl) (fun b u _ q => q) ⟨_, ho⟩ ⟨ho, z, its, n, r, ho⟩
/-- and thawed -/
theorem inv_thaw {a : Addr} {o : Obj} {xs : List V} (I : Inv X pins σ H s) (e : H a = some (.frz o (.lst xs))) (n0 : ∀ o' u, X.H_0 a ≠ some (.frz o' u)) : Inv X pins σ (upd H a (.lst xs)) s := by
  obtain ⟨ho, hl⟩ := I.hok a _ e
  have hx : ∀ b, H b = none → b ≠ a := fun b q w => by rw [w, e] at q; cases q
  have ht : ∀ b ys, H b = some (.tup ys) → b ≠ a := fun b ys q w => by rw [w, e] at q; cases q
  have hw : ∀ b y, H b = some (.own y) → b ≠ a := fun b y q w => by rw [w, e] at q; cases q
  refine ⟨I.ok, I.os, I.bare, ⟨I.base.keep, I.base.slot, fun b ob q n hx' => ?_, I.base.there, fun b ys q => ?_, fun b ob u q => ?_, fun b ps q => ?_⟩, I.loc, I.cell, ?_, fun x c q => ?_, fun q hq => ?_, fun b u q => ?_, I.len⟩
  · have := I.base.free b ob q n hx'
    rw [upd_ne (hx b this)]; exact this
  · have := I.base.tups b ys q
    rw [upd_ne (ht b ys this)]; exact this
  · have := I.base.frzs b ob u q
    rw [upd_ne (fun w => by rw [w] at q; exact n0 _ _ q)]; exact this
  · obtain ⟨more, z⟩ := I.base.tbls b ps q
    exact ⟨more, by rw [upd_ne (fun w => by rw [w, e] at z; cases z)]; exact z⟩
  · rw [upd_ne (hx _ I.free)]; exact I.free
  · have := I.freeC x c q
    rw [upd_ne (hx _ this)]; exact this
  · obtain ⟨h1, h2, h3⟩ := I.pin q hq
    exact ⟨h1, by rw [upd_ne (hx _ h2)]; exact h2, h3⟩
  · have stay : ∀ c v, H c = some v → c ≠ a → ObjOk X.prog X.w (upd H a (.lst xs)) s.heap c v := fun c v z zn =>
      (I.hok c v z).stay (fun _ _ _ z => z) (fun d z => by rw [upd_ne (hw d c z)]; exact z) fun d ys z => by rw [upd_ne (ht d ys z)]; exact z
    by_cases hb : b = a
    · subst hb; rw [upd_same] at q; cases q; exact hl
    · rw [upd_ne hb] at q; exact stay b u q hb
/-- the empty dict is of either kind of keys -/
theorem inv_toT {a : Addr} (I : Inv X pins σ H s) (e : H a = some (.dK [])) : Inv X pins σ (upd H a (.dT [])) s := by
  obtain ⟨z, y, vs, r, o, es, ep, ho, hx, hd, _, hp, _⟩ := I.hok a _ e
  cases r
  refine I.write (x := a) (e := a) (t' := s.toks) (by rw [e]; exact True.intro) (.inl rfl) (fun b u _ q => q) ⟨o, ho⟩ ?_
  exact ⟨z, y, [], .nil, o, es, ep, ho, hx, hd, by cases q : es.toList with | nil => rfl | cons a b => (rw [q] at hp; cases hp), List.nodup_nil⟩
end

/-- v reads as the datum now: it may be a thing that is changed later -/
inductive Rn (K : PySem.W.Frag) (H : Hp) (A : AS) : V → D → Prop
  | p {v : V} {d : D} : Rp K H A v d → Rn K H A v d
  | ow {a : Addr} {xs : List V} {ds : List D} : H a = some (.lst xs) → RpAll K H A xs ds → Rn K H A (.ref a) (.list ds)
  | lk {a : Addr} {o : Obj} {xs : List V} {ds : List D} : H a = some (.frz o (.lst xs)) → RpAll K H A xs ds → Rn K H A (.ref a) (.list ds)
  | dk {a : Addr} {kvs : List (Key × V)} {ds : List (D × D)} : H a = some (.dK kvs) → EntK K H A kvs ds → Rn K H A (.ref a) (.dict ds)
  | dt {a : Addr} {kvs : List (List Key × V)} {ds : List (D × D)} : H a = some (.dT kvs) → EntT K H A kvs ds → Rn K H A (.ref a) (.dict ds)

def Grow (H H' : Hp) : Prop := ∀ a o, H a = some o → H' a = some o
/-- what an operation leaves: its value, which owns what is new -/
def Res (p : PC) (K : PySem.W.Frag) (H : Hp) (A : AS) (m : M) (v : V) (H' : Hp) : Prop :=
  KT K H' → ∃ fp : AS, MR p K H' (fun a => A a ∨ fp a) v m fp ∧ Grow H H' ∧ ∀ a, fp a → H a = none
section
variable {K : PySem.W.Frag} {H H' : Hp} {A : AS} {p : PC} {v : V} {m : M}
theorem res_d {x : D} (h : Rp K H A v x) : Res p K H A (.d x) v H := fun _ => ⟨noA, .b (.d (h.imp fun a z => z.elim id False.elim) fun _ z => z), fun _ _ e => e, fun _ z => z.elim⟩
theorem res_bl {b : Bool} : Res p K H A (.d (.bool b)) (.bl b) H := res_d (.bool b)
theorem res_int {i : Int} : Res p K H A (.d (.int i)) (.int i) H := res_d (.int i)
theorem res_str {x : Str} : Res p K H A (.d (.str x)) (.str x) H := res_d (.str x)
theorem kk_new {q : Addr} {o : HO} (kt : KT K (upd H q o)) : ∀ a o', K.lookup a = some o' → ¬ (a = q) := fun a o' e z => by
  have := kt a o' e
  rw [z, upd_same] at this; cases this
theorem step_new {q : Addr} {o : HO} (n : H q = none) : Step H noA (upd H q o) (fun a => a = q) :=
  ⟨fun a u e _ => by rw [upd_ne (ne_of_none e n)]; exact e, fun a z => .inr (by rw [z]; exact n)⟩
theorem grow_new {q : Addr} {o : HO} (n : H q = none) : Grow H (upd H q o) := fun a u e => by rw [upd_ne (ne_of_none e n)]; exact e
theorem all_new {q : Addr} {o : HO} {xs : List V} {ds : List D} (h : RpAll K H A xs ds) (n : H q = none) (kt : KT K (upd H q o)) : RpAll K (upd H q o) (fun a => A a ∨ a = q) xs ds :=
  h.step (W' := fun a => a = q) (kk_new kt) (step_new n) (fun _ z => z.elim) fun _ z => z
theorem res_lst {q : Addr} {xs : List V} {ds : List D} (h : RpAll K H A xs ds) (n : H q = none) : Res p K H A (.lst ds) (.ref q) (upd H q (.lst xs)) := fun kt =>
  ⟨fun a => a = q, .b (.lst upd_same (all_new h n kt) fun _ => Iff.rfl), grow_new n, fun a z => by rw [z]; exact n⟩
theorem res_tup {q : Addr} {xs : List V} {ds : List D} (h : RpAll K H A xs ds) (n : H q = none) (aq : ¬ A q) : Res p K H A (.d (.tuple ds)) (.ref q) (upd H q (.tup xs)) := fun kt =>
  ⟨noA, .b (.d (.tup upd_same (fun z => z.elim aq id) ((all_new h n kt).imp fun a z => z.elim .inl False.elim)) fun _ z => z), grow_new n, fun a z => z.elim⟩
theorem Rn.int {i : Int} (h : Rn K H A v (.int i)) : v = .int i := by
  cases h with
  | p h => cases h; rfl
theorem Rn.bool {b : Bool} (h : Rn K H A v (.bool b)) : v = .bl b := by
  cases h with
  | p h => cases h; rfl
theorem Rn.str {x : Str} (h : Rn K H A v (.str x)) : v = .str x := by
  cases h with
  | p h => cases h; rfl
theorem Rn.none (h : Rn K H A v .none) : v = .non := by
  cases h with
  | p h => cases h; rfl
theorem Rn.tup {ds : List D} (h : Rn K H A v (.tuple ds)) : ∃ a xs, v = .ref a ∧ H a = some (.tup xs) ∧ RpAll K H A xs ds ∧ ¬ A a := by
  cases h with
  | p h =>
    cases h with
    | tup h n r => exact ⟨_, _, rfl, h, r, n⟩
theorem Rn.lst {ds : List D} (h : Rn K H A v (.list ds)) : ∃ a xs, v = .ref a ∧ SqL K H a xs ∧ RpAll K H A xs ds := by
  cases h with
  | p h =>
    cases h with
    | lst h n r => exact ⟨_, _, rfl, h.sq, r⟩
  | ow e r => exact ⟨_, _, rfl, .inl (.inl e), r⟩
  | lk e r => exact ⟨_, _, rfl, .inl (.inr ⟨_, e⟩), r⟩
end
section
variable {X : Cx} {pins : List (Addr × Obj)} {σ : L2.St} {H : Hp} {s s' : Shared} {A : AS} {p : PC} {v : V} {u : Value}
theorem Rn.reads' (I : Inv X pins σ H s) {d : D} (h : Rn X.K H A v d) (r : RelV v u) (hp : isDictD d = false) : ∃ as, Reads s.heap u d as := by
  cases h with
  | p h => exact h.reads I r
  | ow e q =>
    cases r
    obtain ⟨its, rv, ⟨o, n, e, c, _, dd⟩, _⟩ := I.list (.inl (.inl e))
    obtain ⟨as, ra⟩ := q.reads I rv
    exact ⟨_, .list e c dd ra⟩
  | lk e q =>
    cases r
    obtain ⟨its, rv, ⟨o, n, e, c, _, dd⟩, _⟩ := I.list (.inl (.inr ⟨_, e⟩))
    obtain ⟨as, ra⟩ := q.reads I rv
    exact ⟨_, .list e c dd ra⟩
  | dk e q => exact absurd hp (by simp [isDictD])
  | dt e q => exact absurd hp (by simp [isDictD])
theorem Rn.reads (I : Inv X pins σ H s) {d : D} (h : Rn X.K H A v d) (r : RelV v u) (hp : d.plain = true) : ∃ as, Reads s.heap u d as :=
  h.reads' I r (by cases d <;> first | rfl | (simp [PyData.plain] at hp))
/-- a list's object, just as it is -/
theorem Rn.obj (I : Inv X pins σ H s) {ds : List D} (h : Rn X.K H A v (.list ds)) : ∃ (a : Addr) (xs : List V) (its : List Value) (n : Nat), v = .ref a ∧ RpAll X.K H A xs ds ∧ Vals xs its ∧ xs.length ≤ sizeLine ∧ s.heap.get? a = some { cls := .type "list", data := .seq its.toArray n } := by
  have of : ∀ {a xs}, ObjOk X.prog X.w H s.heap a (.lst xs) → ∃ its n, Vals xs its ∧ xs.length ≤ sizeLine ∧ s.heap.get? a = some { cls := .type "list", data := .seq (List.toArray its) n } := fun {a xs} ⟨z, its, n, r, e⟩ => ⟨its, n, r, z, e⟩
  cases h with
  | p h =>
    cases h with
    | @lst a xs _ h n q =>
      rcases h with ⟨o, e⟩ | ⟨its, n, e, z, r⟩
      · obtain ⟨its, n, r, z, e⟩ := of (I.hok _ _ e).2
        exact ⟨_, _, _, _, rfl, q, r, z, e⟩
      · refine ⟨a, xs, its.toList, n, rfl, q, r, ?_, by simpa using I.kIn _ _ e⟩
        have := r.length
        simp only [Array.length_toList] at this
        omega
  | ow e q =>
    obtain ⟨its, n, r, z, e⟩ := of (I.hok _ _ e)
    exact ⟨_, _, _, _, rfl, q, r, z, e⟩
  | lk e q =>
    obtain ⟨its, n, r, z, e⟩ := of (I.hok _ _ e).2
    exact ⟨_, _, _, _, rfl, q, r, z, e⟩
end

/-! ### leaves -/
/-- A is of tracked things that may change -/
def TrkA (H : Hp) (A : AS) : Prop := ∀ a, A a → ∃ o, H a = some o ∧ ∀ xs, o ≠ .tup xs
theorem not_new {H : Hp} {A : AS} (tr : TrkA H A) {q : Addr} (n : H q = none) : ¬ A q := fun z => by
  obtain ⟨o, e, _⟩ := tr q z
  rw [n] at e; cases e
theorem not_tup {H : Hp} {A : AS} (tr : TrkA H A) {q : Addr} {xs : List V} (n : H q = some (.tup xs)) : ¬ A q := fun z => by
  obtain ⟨o, e, h⟩ := tr q z
  rw [n] at e; cases e
  exact h _ rfl
section
variable (p : PC) (X : Cx)
def Lf1 (f : Value → Sem Value) (g : List D → Option M) : Prop :=
  ∀ (pins : List (Addr × Obj)) (s : Shared) (σ : L2.St) (H : Hp) (A : AS) (x : V) (u : Value) (a : D) (m : M), Inv X pins σ H s → TrkA H A → RelV x u → Rn X.K H A x a → g [a] = some m →
    wpAny (model X.prog X.w) X.A (f u) (EP X pins σ (Res p X.K H A m)) X.xe s
def Lf2 (f : Value → Value → Sem Value) (g : List D → Option M) : Prop :=
  ∀ (pins : List (Addr × Obj)) (s : Shared) (σ : L2.St) (H : Hp) (A : AS) (x y : V) (u w : Value) (a b : D) (m : M), Inv X pins σ H s → TrkA H A → RelV x u → RelV y w → Rn X.K H A x a → Rn X.K H A y b → g [a, b] = some m →
    wpAny (model X.prog X.w) X.A (f u w) (EP X pins σ (Res p X.K H A m)) X.xe s
end
section
variable {p : PC} {X : Cx}
theorem lf_op {f : Value → Value → Sem Value} {r : R2} {g : List D → Option M} (h : OpR X f r)
    (k : ∀ (H : Hp) (A : AS) (x y : V) (a b : D) (m : M), TrkA H A → Rn X.K H A x a → Rn X.K H A y b → g [a, b] = some m → r x y H (Res p X.K H A m)) : Lf2 p X f g :=
  fun pins s σ H A x y u w a b m I tr rx ry ra rb e => h pins s σ H x y u w _ I rx ry (k H A x y a b m tr ra rb e)
theorem lf_call {id : Value} {r : List V → Hp → VK → Prop} {g : List D → Option M} (h : CallR X id r)
    (k : ∀ (H : Hp) (A : AS) (x : V) (a : D) (m : M), TrkA H A → Rn X.K H A x a → g [a] = some m → r [x] H (Res p X.K H A m)) : Lf1 p X (fun u => call id [u]) g :=
  fun pins s σ H A x u a m I tr rx ra e => h pins s σ H [x] [u] _ I (.cons rx .nil) (k H A x a m tr ra e)
theorem lf_call2 {id : Value} {r : List V → Hp → VK → Prop} {g : List D → Option M} (h : CallR X id r)
    (k : ∀ (H : Hp) (A : AS) (x y : V) (a b : D) (m : M), TrkA H A → Rn X.K H A x a → Rn X.K H A y b → g [a, b] = some m → r [x, y] H (Res p X.K H A m)) : Lf2 p X (fun u w => call id [u, w]) g :=
  fun pins s σ H A x y u w a b m I tr rx ry ra rb e => h pins s σ H [x, y] [u, w] _ I (.cons rx (.cons ry .nil)) (k H A x y a b m tr ra rb e)
theorem line_eq : line = sizeLine := by rw [sizeLine_eq]; rfl
theorem mulOk_c {i j : Int} (h : mulOk i j = true) : CMul i j := by
  unfold mulOk at h
  simp only [Bool.or_eq_true, Bool.and_eq_true, decide_eq_true_eq] at h
  exact h
/-- + -/
theorem lf_add (hg : X.A.units + 64 < cLine) : Lf2 p X (binaryOp .Add) addS := by
  intro pins s σ H A x y u w a b m I tr rx ry ra rb e
  unfold addS at e
  split at e
  · rename_i i j q
    cases q
    cases e
    exact op_add pins s σ H x y u w _ I rx ry ⟨i, j, ra.int, rb.int, res_int⟩
  · rename_i i j q
    cases q
    split at e
    · rename_i hz
      cases e
      exact op_add_str pins s σ H x y u w _ I rx ry ⟨i, j, ra.str, rb.str, by rw [← line_eq]; exact hz, res_str⟩
    · cases e
  · rename_i xs ys q
    cases q
    split at e
    · rename_i hz
      cases e
      obtain ⟨a, vx, rfl, ha, qa, na⟩ := ra.tup
      obtain ⟨b, vy, rfl, hb, qb, nb⟩ := rb.tup
      refine op_catA pins s σ H _ _ u w _ I rx ry ⟨a, b, vx, vy, rfl, rfl, SqT.of ha, SqT.of hb, by rw [qa.length, qb.length, ← line_eq]; exact hz, fun z => ?_, fun _ z => ?_, fun _ _ q n => res_tup (qa.append qb) n (not_new tr n)⟩
      · subst z
        have := qa.length
        have hx : xs = [] := by cases xs with | nil => rfl | cons _ _ => simp at this
        subst hx
        exact res_d (.tup hb nb qb)
      · subst z
        have := qb.length
        have hy : ys = [] := by cases ys with | nil => rfl | cons _ _ => simp at this
        subst hy
        rw [List.append_nil]
        exact res_d (.tup ha na qa)
    · cases e
  · rename_i xs ys q
    cases q
    split at e
    · rename_i hz
      cases e
      obtain ⟨a, vx, its, n, rfl, qa, va, za, ea⟩ := ra.obj I
      obtain ⟨b, vy, its2, n2, rfl, qb, vb, zb, eb⟩ := rb.obj I
      cases rx
      cases ry
      have hl : its.length + its2.length ≤ sizeLine := by rw [← va.length, ← vb.length, qa.length, qb.length, ← line_eq]; exact hz
      refine PySem.P.add_list ea eb ?_ (by rw [List.size_toArray, List.size_toArray]; exact hl)
      have eq : its.toArray ++ its2.toArray = (its ++ its2).toArray := by simp
      rw [eq]
      refine ⟨.ref _, _, I.laid (a := s.heap.objs.size) (o := .lst (vx ++ vy)) (t' := s.toks) (fun b o q => Heap.get?_push_of_some _ q) (Nat.le_refl _) ⟨by rw [List.length_append, va.length, vb.length]; exact hl, its ++ its2, _, va.append vb, Heap.get?_push_size _ rfl⟩, rfl, res_lst (qa.append qb) (I.hok.fresh (Nat.le_refl _))⟩
    · cases e
  · cases e
theorem lf_sub : Lf2 p X (binaryOp .Sub) subS := lf_op op_sub fun H A x y a b m tr ra rb e => by
  unfold subS at e
  split at e
  · rename_i i j q
    cases q
    cases e
    exact ⟨i, j, ra.int, rb.int, res_int⟩
  · cases e
theorem rpAll_append {K : PySem.W.Frag} {H : Hp} {A : AS} : ∀ (k : Nat) {xs : List V} {ds : List D}, RpAll K H A xs ds → RpAll K H A (List.replicate k xs).flatten (List.replicate k ds).flatten
  | 0, _, _, _ => .nil
  | k + 1, _, _, h => by
    rw [List.replicate_succ, List.replicate_succ, List.flatten_cons, List.flatten_cons]
    exact h.append (rpAll_append k h)
/-- a list k times -/
theorem times_list {P : Program} {w : World} {A : Around} {E : Value → Shared → Prop} {s : Shared} {Q : Value → Shared → Prop} {l : Addr} {its : List Value} {n : Nat} {k : Int} {t : Tok} (e : s.heap.get? l = some { cls := .type "list", data := .seq its.toArray n }) (h0 : 0 ≤ k) (h1 : k ≤ 1000) (hz : its.length * k.toNat ≤ sizeLine)
    (h : Q (.ref s.heap.objs.size) { s with heap := s.heap.push (seqObj "list" (List.replicate k.toNat its).flatten.toArray 0) }) : wpAny (model P w) A (binaryOp .Mult (.ref l) (.int k t)) Q E s := by
  have sz : its.toArray.size * k.toNat ≤ sizeLine := by simpa using hz
  have c1 : ¬ its.toArray.size * k.toNat > (2 ^ 63 - 1) / 8 := by
    have : (sizeLine : Nat) ≤ (2 ^ 63 - 1) / 8 := by decide
    omega
  have c2 : ¬ (!Builtin.List.listFitsIndex k) = true := by simp [fitsIndex_both (show -(2 ^ 63) ≤ k by omega) (show k < 2 ^ 63 by omega)]
  have c3 : ¬ Builtin.List.listTooLong (its.toArray.size * k.toNat) = true := by rw [notLongL sz]; simp
  have all : ∀ m : Nat, List.foldl (fun x1 x2 => x1 ++ x2) #[] (List.replicate m its.toArray) = (List.replicate m its).flatten.toArray := fun m => by simpa using foldl_rep its m []
  have made : List.foldl (fun x1 x2 => x1 ++ x2) #[] (List.replicate (if its.toArray.isEmpty = true then 0 else k.toNat) its.toArray) = (List.replicate k.toNat its).flatten.toArray := by
    rw [all]
    cases its <;> simp
  refine wpAny_binaryOp_repeat_ref (T := "list") (U := "int") (by decide) ⟨_, e, rfl⟩ (fun s' => typeIs_int s' k t) noFill_list_mul PySem.F.fills_int_mul PySem.F.slot_int_rmul repeat_list PySem.F.slot_int_index.lookup ?_
  refine call_meets PySem.F.slot_int_rmul (typeIs_int s k t) PySem.F.entry_int_rmul (PySem.F.args_int_rmul_2 _ _) (int___rmul___int_list k t l its.toArray n) ⟨e, rfl, ⟨_, e, rfl⟩, ?_⟩
  refine call_meets PySem.F.slot_list_mul ⟨_, e, rfl⟩ PySem.F.entry_list_mul (PySem.F.args_list_mul_2 _ _) (AutoListH.list___mul___list_int_3 l its.toArray n k t c2 c1 c3) ⟨e, ?_⟩
  rw [made]
  exact h
theorem lf_mul : Lf2 p X (binaryOp .Mult) mulS := by
  intro pins s σ H A x y u w a b m I tr rx ry ra rb e
  unfold mulS at e
  split at e
  · rename_i i j q
    cases q
    split at e
    · rename_i hc
      cases e
      exact op_mul pins s σ H x y u w _ I rx ry ⟨i, j, ra.int, rb.int, mulOk_c hc, res_int⟩
    · cases e
  · rename_i xs j q
    cases q
    split at e
    · rename_i hc
      obtain ⟨h1, h2, h3⟩ := hc
      cases e
      obtain ⟨a, vx, its, n, rfl, qa, va, za, ea⟩ := ra.obj I
      have ej := rb.int
      subst ej
      cases rx
      obtain ⟨t, rfl⟩ := ry
      have hz : its.length * j.toNat ≤ sizeLine := by rw [← va.length, qa.length, ← line_eq]; exact h3
      refine times_list ea h1 h2 hz ?_
      refine ⟨.ref _, _, I.laid (a := s.heap.objs.size) (o := .lst (List.replicate j.toNat vx).flatten) (t' := s.toks) (fun b o q => Heap.get?_push_of_some _ q) (Nat.le_refl _) ⟨?_, _, _, va.rep j.toNat, Heap.get?_push_size _ rfl⟩, rfl, res_lst (rpAll_append j.toNat qa) (I.hok.fresh (Nat.le_refl _))⟩
      rw [(va.rep j.toNat).length, PyProof.Rows.lm_len_rep_flat, Nat.mul_comm]
      exact hz
    · cases e
  · cases e
theorem lf_fdiv : Lf2 p X (binaryOp .FloorDiv) fdivS := lf_op op_fdiv fun H A x y a b m tr ra rb e => by
  unfold fdivS at e
  split at e
  · rename_i i j q
    cases q
    split at e
    · rename_i hc
      cases e
      exact ⟨i, j, ra.int, rb.int, hc, res_int⟩
    · cases e
  · cases e
theorem lf_mod : Lf2 p X (binaryOp .Mod) modS := lf_op op_mod fun H A x y a b m tr ra rb e => by
  unfold modS at e
  split at e
  · rename_i i j q
    cases q
    split at e
    · rename_i hc
      cases e
      exact ⟨i, j, ra.int, rb.int, hc, res_int⟩
    · cases e
  · cases e
theorem lf_pow : Lf2 p X (binaryOp .Pow) powS := lf_op op_pow fun H A x y a b m tr ra rb e => by
  unfold powS at e
  split at e
  · rename_i i j q
    cases q
    split at e
    · rename_i hc
      cases e
      exact ⟨i, j, ra.int, rb.int, ⟨hc.1, by omega, hc.2.2⟩, res_int⟩
    · cases e
  · cases e
theorem lf_neg : Lf1 p X (unaryOp .USub) negS := by
  intro pins s σ H A x u a m I tr rx ra e
  unfold negS at e
  split at e
  · rename_i i q
    cases q
    cases e
    exact un_neg pins s σ H x u _ I rx ⟨i, ra.int, res_int⟩
  · cases e

/-! comparisons -/
theorem ltD_data {a b : D} {c : Bool} (h : ltD a b = some c) : (∃ i j, a = .int i ∧ b = .int j ∧ c = decide (i < j)) ∨ (okd a = true ∧ okd b = true ∧ PySem.W.alike a b = true ∧ a ≠ .none ∧ c = PySem.W.dataLt a b) := by
  have gen : (if okd a && okd b && PySem.W.alike a b && !a.isNoneType then some (PySem.W.dataLt a b) else none) = some c → okd a = true ∧ okd b = true ∧ PySem.W.alike a b = true ∧ a ≠ .none ∧ c = PySem.W.dataLt a b := fun h => by
    split at h
    · rename_i g
      simp only [Bool.and_eq_true, Bool.not_eq_true'] at g
      obtain ⟨⟨⟨g1, g2⟩, g3⟩, g4⟩ := g
      refine ⟨g1, g2, g3, fun q => ?_, (Option.some.inj h).symm⟩
      subst q
      exact absurd g4 (by decide)
    · cases h
  unfold ltD at h
  split at h
  · exact .inl ⟨_, _, rfl, rfl, (Option.some.inj h).symm⟩
  · exact .inr (gen h)
theorem okd_plain {a : D} (h : okd a = true) : a.plain = true ∧ a.depth ≤ 40 := by
  unfold okd at h
  simpa using h
theorem Rn.le_alike {K : PySem.W.Frag} {H : Hp} {A : AS} {v : V} {d : D} (h : Rn K H A v d) : True := trivial
theorem alike_plain {a b : D} : True := trivial
theorem ep_bl {pins : List (Addr × Obj)} {s : Shared} {σ : L2.St} {H : Hp} {A : AS} (I : Inv X pins σ H s) (b : Bool) : EP X pins σ (Res p X.K H A (.d (.bool b))) (.bool b) s := ⟨.bl b, H, I, rfl, res_bl⟩
theorem ep_int {pins : List (Addr × Obj)} {s : Shared} {σ : L2.St} {H : Hp} {A : AS} (I : Inv X pins σ H s) (i : Int) (t : Tok) : EP X pins σ (Res p X.K H A (.d (.int i))) (.int i t) s := ⟨.int i, H, I, ⟨t, rfl⟩, res_int⟩
theorem lf_lt (hu : X.A.units + 64 < cLine) : Lf2 p X (compareOp .Lt) ltS := by
  intro pins s σ H A x y u w a b m I tr rx ry ra rb e
  have e' : (ltD a b).bind (fun c => bl (c)) = some m := e
  obtain ⟨c, h1, h2⟩ := Option.bind_eq_some_iff.mp e'
  cases h2
  rcases ltD_data h1 with ⟨i, j, e1, e2, e3⟩ | ⟨g1, g2, g3, g4, e3⟩
  · subst e1; subst e2; subst e3
    refine op_lt pins s σ H x y u w _ I rx ry ⟨i, j, ra.int, rb.int, ?_⟩
    exact res_bl
  · obtain ⟨p1, d1⟩ := okd_plain g1
    obtain ⟨p2, d2⟩ := okd_plain g2
    obtain ⟨as, r1⟩ := ra.reads I rx p1
    obtain ⟨bs, r2⟩ := rb.reads I ry p2
    subst e3
    refine PySem.W.lt_data r1 r2 g3 g4 (by omega) ?_
    exact ep_bl I _
theorem lf_gt (hu : X.A.units + 64 < cLine) : Lf2 p X (compareOp .Gt) gtS := by
  intro pins s σ H A x y u w a b m I tr rx ry ra rb e
  have e' : (ltD b a).bind (fun c => bl (c)) = some m := e
  obtain ⟨c, h1, h2⟩ := Option.bind_eq_some_iff.mp e'
  cases h2
  rcases ltD_data h1 with ⟨i, j, e1, e2, e3⟩ | ⟨g1, g2, g3, g4, e3⟩
  · subst e1; subst e2; subst e3
    refine op_gt pins s σ H x y u w _ I rx ry ⟨j, i, ra.int, rb.int, ?_⟩
    exact res_bl
  · obtain ⟨p1, d1⟩ := okd_plain g1
    obtain ⟨p2, d2⟩ := okd_plain g2
    obtain ⟨as, r1⟩ := ra.reads I rx p2
    obtain ⟨bs, r2⟩ := rb.reads I ry p1
    subst e3
    refine PySem.W.gt_data r1 r2 ((PySem.W.alike_comm _ _).trans g3) (PySem.W.ne_none_both g3 g4) (by omega) ?_
    exact ep_bl I _
theorem lf_le (hu : X.A.units + 64 < cLine) : Lf2 p X (compareOp .LtE) leS := by
  intro pins s σ H A x y u w a b m I tr rx ry ra rb e
  have e' : (ltD b a).bind (fun c => bl (!c)) = some m := e
  obtain ⟨c, h1, h2⟩ := Option.bind_eq_some_iff.mp e'
  cases h2
  rcases ltD_data h1 with ⟨i, j, e1, e2, e3⟩ | ⟨g1, g2, g3, g4, e3⟩
  · subst e1; subst e2; subst e3
    refine op_le pins s σ H x y u w _ I rx ry ⟨j, i, ra.int, rb.int, ?_⟩
    show Res p X.K H A _ (V.bl (decide (j ≤ i))) H
    rw [show decide (j ≤ i) = !decide (i < j) by rw [← decide_not]; exact decide_eq_decide.mpr (by omega)]
    exact res_bl
  · obtain ⟨p1, d1⟩ := okd_plain g1
    obtain ⟨p2, d2⟩ := okd_plain g2
    obtain ⟨as, r1⟩ := ra.reads I rx p2
    obtain ⟨bs, r2⟩ := rb.reads I ry p1
    subst e3
    refine PySem.W.le_data r1 r2 ((PySem.W.alike_comm _ _).trans g3) (PySem.W.ne_none_both g3 g4) (by omega) ?_
    exact ep_bl I _
theorem lf_ge (hu : X.A.units + 64 < cLine) : Lf2 p X (compareOp .GtE) geS := by
  intro pins s σ H A x y u w a b m I tr rx ry ra rb e
  have e' : (ltD a b).bind (fun c => bl (!c)) = some m := e
  obtain ⟨c, h1, h2⟩ := Option.bind_eq_some_iff.mp e'
  cases h2
  rcases ltD_data h1 with ⟨i, j, e1, e2, e3⟩ | ⟨g1, g2, g3, g4, e3⟩
  · subst e1; subst e2; subst e3
    refine op_ge pins s σ H x y u w _ I rx ry ⟨i, j, ra.int, rb.int, ?_⟩
    show Res p X.K H A _ (V.bl (decide (j ≤ i))) H
    rw [show decide (j ≤ i) = !decide (i < j) by rw [← decide_not]; exact decide_eq_decide.mpr (by omega)]
    exact res_bl
  · obtain ⟨p1, d1⟩ := okd_plain g1
    obtain ⟨p2, d2⟩ := okd_plain g2
    obtain ⟨as, r1⟩ := ra.reads I rx p1
    obtain ⟨bs, r2⟩ := rb.reads I ry p2
    subst e3
    refine PySem.W.ge_data r1 r2 g3 g4 (by omega) ?_
    exact ep_bl I _
theorem lf_eq (hu : X.A.units + 64 < cLine) : Lf2 p X (compareOp .Eq) eqS := by
  intro pins s σ H A x y u w a b m I tr rx ry ra rb e
  have e' : (if okd a && okd b then bl (PyData.eqv a b) else none) = some m := e
  split at e'
  · rename_i g
    cases e'
    obtain ⟨g1, g2⟩ := Bool.and_eq_true_iff.mp g
    obtain ⟨p1, d1⟩ := okd_plain g1
    obtain ⟨p2, d2⟩ := okd_plain g2
    obtain ⟨as, r1⟩ := ra.reads I rx p1
    obtain ⟨bs, r2⟩ := rb.reads I ry p2
    exact SeqAt.eq_plain r1 r2 p1 p2 (by omega) (ep_bl I _)
  · cases e'
theorem lf_ne (hu : X.A.units + 64 < cLine) : Lf2 p X (compareOp .NotEq) neS := by
  intro pins s σ H A x y u w a b m I tr rx ry ra rb e
  have e' : (if okd a && okd b then bl (!PyData.eqv a b) else none) = some m := e
  split at e'
  · rename_i g
    cases e'
    obtain ⟨g1, g2⟩ := Bool.and_eq_true_iff.mp g
    obtain ⟨p1, d1⟩ := okd_plain g1
    obtain ⟨p2, d2⟩ := okd_plain g2
    obtain ⟨as, r1⟩ := ra.reads I rx p1
    obtain ⟨bs, r2⟩ := rb.reads I ry p2
    exact SeqAt.ne_plain r1 r2 p1 p2 (by omega) (ep_bl I _)
  · cases e'
theorem Rn.isN {K : PySem.W.Frag} {H : Hp} {A : AS} {v : V} {d : D} (h : Rn K H A v d) : decide (v = .non) = d.isNoneType := by
  cases h with
  | p h => cases h <;> rfl
  | _ => rfl
theorem lf_is : Lf2 p X (compareOp .Is) isS := by
  intro pins s σ H A x y u w a b m I tr rx ry ra rb e
  unfold isS at e
  split at e
  · rename_i q
    cases q
    cases e
    refine op_isN pins s σ H x y u w _ I rx ry ⟨rb.none, ?_⟩
    rw [ra.isN]; exact res_bl
  · rename_i q
    cases q
    cases e
    refine op_isBl pins s σ H x y u w _ I rx ry ⟨_, _, ra.bool, rb.bool, ?_⟩
    first | exact res_bl | (rw [Bool.beq_eq_decide_eq]; exact res_bl)
  · cases e
theorem lf_isn : Lf2 p X (compareOp .IsNot) isnS := by
  intro pins s σ H A x y u w a b m I tr rx ry ra rb e
  unfold isnS at e
  split at e
  · rename_i q
    cases q
    cases e
    refine op_notN pins s σ H x y u w _ I rx ry ⟨rb.none, ?_⟩
    rw [ra.isN]; exact res_bl
  · rename_i q
    cases q
    cases e
    refine op_notBl pins s σ H x y u w _ I rx ry ⟨_, _, ra.bool, rb.bool, ?_⟩
    first | exact res_bl | (rw [Bool.beq_eq_decide_eq]; exact res_bl)
  · cases e

/-! dicts -/
theorem okds_plain {xs : List D} (h : okds xs = true) : PyData.plainAll xs = true ∧ PyData.depthAll xs ≤ 39 := by
  unfold okds okd at h
  simp only [PyData.plain, PyData.depth, Bool.and_eq_true, decide_eq_true_eq] at h
  obtain ⟨h1, h2⟩ := h
  refine ⟨h1, ?_⟩
  have h3 : PyData.depthAll xs + 1 ≤ 40 := of_decide_eq_true h2
  omega
theorem keyD_eqv {a k : D} {ka kk : Key} (ha : keyD a = some ka) (hk : keyD k = some kk) : PyData.eqv a k = decide (ka = kk) := by
  cases a <;> simp only [keyD, Option.some.injEq, reduceCtorEq] at ha <;> cases k <;> simp only [keyD, Option.some.injEq, reduceCtorEq] at hk <;> subst ha <;> subst hk <;> simp only [PyData.eqv]
  · rw [key_ll]
  · exact (decide_eq_false (fun q => nomatch q)).symm
  · exact (decide_eq_false (fun q => nomatch q)).symm
  · rw [key_rr, Bool.beq_eq_decide_eq]
theorem keysAll_eqv : ∀ {xs ys : List D} {ka kk : List Key}, xs.mapM keyD = some ka → ys.mapM keyD = some kk → PyData.eqvAll xs ys = decide (ka = kk)
  | [], [], _, _, ha, hk => by simp at ha hk; subst ha; subst hk; simp [PyData.eqvAll]
  | [], y :: ys, _, _, ha, hk => by
    simp only [List.mapM_cons, List.mapM_nil, Option.pure_def, Option.bind_eq_bind, Option.some.injEq, Option.bind_eq_some_iff] at ha hk
    obtain ⟨k, _, r, _, e⟩ := hk
    subst ha; subst e
    simp [PyData.eqvAll]
  | x :: xs, [], _, _, ha, hk => by
    simp only [List.mapM_cons, List.mapM_nil, Option.pure_def, Option.bind_eq_bind, Option.some.injEq, Option.bind_eq_some_iff] at ha hk
    obtain ⟨k, _, r, _, e⟩ := ha
    subst hk; subst e
    simp [PyData.eqvAll]
  | x :: xs, y :: ys, _, _, ha, hk => by
    simp only [List.mapM_cons, Option.pure_def, Option.bind_eq_bind, Option.some.injEq, Option.bind_eq_some_iff] at ha hk
    obtain ⟨k1, h1, r1, h2, e1⟩ := ha
    obtain ⟨k2, h3, r2, h4, e2⟩ := hk
    subst e1; subst e2
    rw [PyData.eqvAll, keyD_eqv h1 h3, keysAll_eqv h2 h4, ← Bool.decide_and]
    exact (decide_eq_decide.mpr (by rw [List.cons.injEq]))
theorem keysD_eqv {a k : D} {ka kk : List Key} (ha : keysD a = some ka) (hk : keysD k = some kk) : PyData.eqv a k = decide (ka = kk) := by
  cases a <;> simp only [keysD, reduceCtorEq] at ha
  cases k <;> simp only [keysD, reduceCtorEq] at hk
  simp only [PyData.eqv]
  exact keysAll_eqv ha hk
theorem valV_cons {κ : Type} [DecidableEq κ] (k0 k : κ) (v : V) (r : List (κ × V)) : valV ((k0, v) :: r) k = if k0 = k then some v else valV r k := by
  unfold valV
  by_cases h : k0 = k
  · simp [h]
  · simp [h]
section
variable {K : PySem.W.Frag} {H : Hp} {A : AS}
theorem EntK.find {k : D} {kk : Key} (hk : keyD k = some kk) : ∀ {kvs : List (Key × V)} {ds : List (D × D)}, EntK K H A kvs ds → (∀ x, dfind k ds = some x → ∃ v, valV kvs kk = some v ∧ Rp K H A v x) ∧ (dfind k ds = none → valV kvs kk = none)
  | _, _, .nil => ⟨fun _ h => (by cases h), fun _ => rfl⟩
  | _, _, .cons (k := k0) (v := v) (a := a) (x := x0) ha rv t => by
    obtain ⟨i1, i2⟩ := EntK.find hk t
    rw [valV_cons]
    simp only [dfind, keyD_eqv ha hk, decide_eq_true_eq]
    by_cases e : k0 = kk
    · simp only [if_pos e]
      exact ⟨fun x h => ⟨v, rfl, (Option.some.inj h) ▸ rv⟩, fun h => (by cases h)⟩
    · simp only [if_neg e]
      exact ⟨i1, i2⟩
theorem EntT.find {k : D} {kk : List Key} (hk : keysD k = some kk) : ∀ {kvs : List (List Key × V)} {ds : List (D × D)}, EntT K H A kvs ds → (∀ x, dfind k ds = some x → ∃ v, valV kvs kk = some v ∧ Rp K H A v x) ∧ (dfind k ds = none → valV kvs kk = none)
  | _, _, .nil => ⟨fun _ h => (by cases h), fun _ => rfl⟩
  | _, _, .cons (k := k0) (v := v) (a := a) (x := x0) ha rv t => by
    obtain ⟨i1, i2⟩ := EntT.find hk t
    rw [valV_cons]
    simp only [dfind, keysD_eqv ha hk, decide_eq_true_eq]
    by_cases e : k0 = kk
    · simp only [if_pos e]
      exact ⟨fun x h => ⟨v, rfl, (Option.some.inj h) ▸ rv⟩, fun h => (by cases h)⟩
    · simp only [if_neg e]
      exact ⟨i1, i2⟩
theorem keyD_of {k : D} (h : keyKind k = 1) : ∃ kk, keyD k = some kk := by
  cases k <;> first | exact ⟨_, rfl⟩ | (simp [keyKind] at h; done) | (simp only [keyKind] at h; split at h <;> cases h)
theorem keyD_atom {k : D} (h : atomKey k = true) : ∃ kk, keyD k = some kk := by
  cases k <;> first | exact ⟨_, rfl⟩ | cases h
theorem keysD_all : ∀ {xs : List D}, xs.all atomKey = true → ∃ ks, xs.mapM keyD = some ks
  | [], _ => ⟨[], rfl⟩
  | x :: xs, h => by
    simp only [Bool.and_eq_true, List.all_cons] at h
    obtain ⟨k, hk⟩ := keyD_atom h.1
    obtain ⟨ks, hks⟩ := keysD_all h.2
    exact ⟨k :: ks, by rw [List.mapM_cons, hk, hks]; rfl⟩
theorem keysD_of {k : D} (h : keyKind k = 2) : ∃ xs kk, k = .tuple xs ∧ keysD k = some kk := by
  cases k <;> simp [keyKind] at h
  rename_i xs
  obtain ⟨ks, e⟩ := keysD_all (xs := xs) (by simpa using h)
  exact ⟨xs, ks, rfl, e⟩
/-- the value of a key -/
theorem Rp.key {v : V} {k : D} {kk : Key} (h : Rp K H A v k) (e : keyD k = some kk) : v = kV kk := by
  cases h <;> simp only [keyD, Option.some.injEq, reduceCtorEq] at e
  · subst e; rfl
  · subst e; rfl
theorem RpAll.keys : ∀ {vs : List V} {ds : List D} {ks : List Key}, RpAll K H A vs ds → ds.mapM keyD = some ks → vs = ks.map kV
  | _, _, _, .nil, e => by simp at e; subst e; rfl
  | _, _, _, .cons h t, e => by
    simp only [List.mapM_cons, Option.pure_def, Option.bind_eq_bind, Option.some.injEq, Option.bind_eq_some_iff] at e
    obtain ⟨k, h1, r, h2, e⟩ := e
    subst e
    rw [List.map_cons, h.key h1, RpAll.keys t h2]
theorem Rp.keys {v : V} {k : D} {kk : List Key} (h : Rp K H A v k) (e : keysD k = some kk) : ∃ b, v = .ref b ∧ H b = some (.tup (kk.map kV)) := by
  cases h <;> simp only [keysD, reduceCtorEq] at e
  rename_i h n r
  exact ⟨_, rfl, by rw [← r.keys e]; exact h⟩
theorem EntK.keysOk : ∀ {kvs : List (Key × V)} {ds : List (D × D)}, EntK K H A kvs ds → keysOk 2 ds = true → ds = []
  | _, _, .nil, _ => rfl
  | _, _, .cons (a := a) h _ _, e => by
    simp only [Mn.keysOk, List.all_cons, Bool.and_eq_true] at e
    cases a <;> simp [keyD] at h <;> simp [keyKind] at e
theorem EntT.keysOk : ∀ {kvs : List (List Key × V)} {ds : List (D × D)}, EntT K H A kvs ds → keysOk 1 ds = true → ds = []
  | _, _, .nil, _ => rfl
  | _, _, .cons (a := a) h _ _, e => by
    simp only [Mn.keysOk, List.all_cons, Bool.and_eq_true] at e
    cases a <;> simp only [keysD, reduceCtorEq] at h
    simp only [keyKind] at e
    split at e <;> simp at e
end

theorem upd_id {H : Hp} {a : Addr} {o : HO} (e : H a = some o) : upd H a o = H := by
  funext b; unfold upd; split
  · rename_i h; rw [h, e]
  · rfl
theorem inv_toK {pins : List (Addr × Obj)} {s : Shared} {σ : L2.St} {H : Hp} {a : Addr} (I : Inv X pins σ H s) (e : H a = some (.dT [])) : Inv X pins σ (upd H a (.dK [])) s := by
  obtain ⟨z, y, xs, r, o, es, ep, ho, hx, hd, he, _⟩ := I.hok a _ e
  cases r
  refine I.write (x := a) (e := a) (t' := s.toks) (by rw [e]; exact True.intro) (.inl rfl) (fun b u _ q => q) ⟨o, ho⟩ ?_
  have hes : es = #[] := by cases es; simpa using he
  subst hes
  exact ⟨z, y, [], .nil, o, #[], ep, ho, hx, hd, (by intro e he; simp at he), (by first | exact .nil | simp [Pairs] | constructor), List.nodup_nil⟩
/-- a dict is asked for a key: H1 is H, but that an empty dict may be of the other kind -/
theorem dget_of {pins : List (Addr × Obj)} {s : Shared} {σ : L2.St} {H : Hp} {A : AS} {x y : V} {k : D} {ds : List (D × D)} (I : Inv X pins σ H s) (ra : Rn X.K H A x k) (rb : Rn X.K H A y (.dict ds)) (hk : keyed k ds = true) :
    ∃ (a : Addr) (H1 : Hp) (o : Option V), y = .ref a ∧ Inv X pins σ H1 s ∧ DGet H1 a x o ∧ (∀ s', Inv X pins σ H1 s' → Inv X pins σ H s') ∧ (∀ d, dfind k ds = some d → ∃ v, o = some v ∧ Rp X.K H A v d) ∧ (dfind k ds = none → o = none) := by
  unfold keyed at hk
  simp only [Bool.and_eq_true, bne_iff_ne, ne_eq] at hk
  obtain ⟨hk0, hks⟩ := hk
  have h12 : keyKind k = 1 ∨ keyKind k = 2 := by
    have key : keyKind k = 0 ∨ keyKind k = 1 ∨ keyKind k = 2 := by
      unfold keyKind
      split
      · exact .inr (.inl rfl)
      · exact .inr (.inl rfl)
      · split
        · exact .inr (.inr rfl)
        · exact .inl rfl
      · exact .inl rfl
    exact key.resolve_left hk0
  rcases h12 with h1 | h2
  · obtain ⟨kk, hkk⟩ := keyD_of h1
    have rk : Rp X.K H A x k := by
      cases ra with
      | p r => exact r
      | _ => simp [keyD] at hkk
    have ex := rk.key hkk
    cases rb with
    | p r => cases r
    | @dk a kvs _ e q =>
      obtain ⟨f1, f2⟩ := q.find hkk
      exact ⟨a, H, _, rfl, I, .inl ⟨kvs, kk, .inl e, ex, rfl⟩, fun _ z => z, f1, f2⟩
    | @dt a kvs _ e q =>
      rw [h1] at hks
      have hn := q.keysOk hks
      subst hn
      cases q
      refine ⟨a, _, none, rfl, inv_toK I e, .inl ⟨[], kk, .inl upd_same, ex, rfl⟩, fun s' z => ?_, fun d h => (by cases h), fun _ => rfl⟩
      have := inv_toT z upd_same
      rwa [upd_upd, upd_id e] at this
  · obtain ⟨xs, kk, e1, hkk⟩ := keysD_of h2
    have rk : Rp X.K H A x k := by
      cases ra with
      | p r => exact r
      | _ => simp [keysD] at hkk
    obtain ⟨b, ex, eb⟩ := rk.keys hkk
    cases rb with
    | p r => cases r
    | @dt a kvs _ e q =>
      obtain ⟨f1, f2⟩ := q.find hkk
      exact ⟨a, H, _, rfl, I, .inr ⟨kvs, kk, b, .inl e, ex, eb, rfl⟩, fun _ z => z, f1, f2⟩
    | @dk a kvs _ e q =>
      rw [h2] at hks
      have hn := q.keysOk hks
      subst hn
      cases q
      have nab : b ≠ a := fun z => by rw [z, e] at eb; cases eb
      refine ⟨a, _, none, rfl, inv_toT I e, .inr ⟨[], kk, b, .inl upd_same, ex, by rw [upd_ne nab]; exact eb, rfl⟩, fun s' z => ?_, fun d h => (by cases h), fun _ => rfl⟩
      have := inv_toK z upd_same
      rwa [upd_upd, upd_id e] at this
theorem lf_in (hu : X.A.units + 64 < cLine) : Lf2 p X (compareOp .In) inS := by
  intro pins s σ H A x y u w a b m I tr rx ry ra rb e
  unfold inS at e
  split at e
  · rename_i q
    cases q
    split at e
    · rename_i g
      cases e
      obtain ⟨g1, g2⟩ := Bool.and_eq_true_iff.mp g
      obtain ⟨p1, d1⟩ := okd_plain g1
      obtain ⟨p2, d2⟩ := okds_plain g2
      obtain ⟨as, r1⟩ := ra.reads I rx p1
      obtain ⟨bs, r2⟩ := rb.reads I ry (by simpa [PyData.plain] using p2)
      exact SeqAt.in_list_data r2 r1 p2 p1 (by omega) (ep_bl I _)
    · cases e
  · rename_i q
    cases q
    split at e
    · rename_i g
      cases e
      obtain ⟨g1, g2⟩ := Bool.and_eq_true_iff.mp g
      obtain ⟨p1, d1⟩ := okd_plain g1
      obtain ⟨p2, d2⟩ := okds_plain g2
      obtain ⟨as, r1⟩ := ra.reads I rx p1
      obtain ⟨bs, r2⟩ := rb.reads I ry (by simpa [PyData.plain] using p2)
      exact SeqAt.in_tuple_data r2 r1 p2 p1 (by omega) (ep_bl I _)
    · cases e
  · rename_i q
    cases q
    split at e
    · rename_i g
      cases e
      obtain ⟨d, H1, o, rfl, I1, dg, bk, f1, f2⟩ := dget_of I ra rb g
      cases (show w = Value.ref d from ry)
      refine d_in (by omega) I1 dg rx fun s3 I3 => ?_
      refine ⟨.bl o.isSome, H, bk _ I3, rfl, ?_⟩
      have eo : ∀ f, dfind _ _ = f → o.isSome = f.isSome := fun f hf => by
        cases f with
        | none => rw [f2 hf]; rfl
        | some d => obtain ⟨v, e, _⟩ := f1 d hf; rw [e]; rfl
      rw [eo _ rfl]
      exact res_bl
    · cases e
  · cases e
theorem lf_nin (hu : X.A.units + 64 < cLine) : Lf2 p X (compareOp .NotIn) ninS := by
  intro pins s σ H A x y u w a b m I tr rx ry ra rb e
  unfold ninS at e
  split at e
  · rename_i q
    cases q
    split at e
    · rename_i g
      cases e
      obtain ⟨g1, g2⟩ := Bool.and_eq_true_iff.mp g
      obtain ⟨p1, d1⟩ := okd_plain g1
      obtain ⟨p2, d2⟩ := okds_plain g2
      obtain ⟨as, r1⟩ := ra.reads I rx p1
      obtain ⟨bs, r2⟩ := rb.reads I ry (by simpa [PyData.plain] using p2)
      exact SeqAt.notIn_list_data r2 r1 p2 p1 (by omega) (ep_bl I _)
    · cases e
  · rename_i q
    cases q
    split at e
    · rename_i g
      cases e
      obtain ⟨g1, g2⟩ := Bool.and_eq_true_iff.mp g
      obtain ⟨p1, d1⟩ := okd_plain g1
      obtain ⟨p2, d2⟩ := okds_plain g2
      obtain ⟨as, r1⟩ := ra.reads I rx p1
      obtain ⟨bs, r2⟩ := rb.reads I ry (by simpa [PyData.plain] using p2)
      exact SeqAt.notIn_tuple_data r2 r1 p2 p1 (by omega) (ep_bl I _)
    · cases e
  · rename_i q
    cases q
    split at e
    · rename_i g
      cases e
      obtain ⟨d, H1, o, rfl, I1, dg, bk, f1, f2⟩ := dget_of I ra rb g
      cases (show w = Value.ref d from ry)
      refine d_notIn (by omega) I1 dg rx fun s3 I3 => ?_
      refine ⟨.bl (!o.isSome), H, bk _ I3, rfl, ?_⟩
      have eo : ∀ f, dfind _ _ = f → o.isSome = f.isSome := fun f hf => by
        cases f with
        | none => rw [f2 hf]; rfl
        | some d => obtain ⟨v, e, _⟩ := f1 d hf; rw [e]; rfl
      rw [eo _ rfl]
      exact res_bl
    · cases e
  · cases e

/-! len, sorted, .. -/
theorem lf_len : Lf1 p X (fun u => call (.builtin "len") [u]) lenS := by
  intro pins s σ H A x u a m I tr rx ra e
  unfold lenS at e
  split at e
  · rename_i q
    cases q
    split at e
    · rename_i hz
      cases e
      refine call_len pins s σ H [x] [u] _ I (.cons rx .nil) ⟨x, _, rfl, ?_, res_int⟩
      rw [ra.str]
      exact ⟨by rw [← line_eq]; exact hz, rfl⟩
    · cases e
  · rename_i q
    cases q
    cases e
    obtain ⟨a, vs, rfl, ha, qa⟩ := ra.lst
    refine call_len pins s σ H [_] [u] _ I (.cons rx .nil) ⟨_, _, rfl, .inl ⟨vs, ha, qa.length.symm⟩, res_int⟩
  · rename_i q
    cases q
    cases e
    obtain ⟨a, vs, rfl, ha, qa, na⟩ := ra.tup
    refine call_len pins s σ H [_] [u] _ I (.cons rx .nil) ⟨_, _, rfl, .inr ⟨vs, SqT.of ha, qa.length.symm⟩, res_int⟩
  · rename_i q
    cases q
    split at e
    · cases e
      cases ra with
      | p r => cases r
      | dk ea qa =>
        cases rx
        refine d_len I (.inl ea) fun t s' I' => ?_
        rw [qa.length]
        exact ep_int I' _ _
      | dt ea qa =>
        refine L2.call_len_dT pins s σ H [_] [u] _ I (.cons rx .nil) ⟨_, _, rfl, ea, ?_⟩
        rw [qa.length]
        exact res_int
    · cases e
  · cases e
theorem bools_vals {K : PySem.W.Frag} {H : Hp} {A : AS} : ∀ {vs : List V} {ds : List D} {bs : List Bool}, RpAll K H A vs ds → bools ds = some bs → vs = bs.map V.bl
  | _, _, _, .nil, e => by cases e; rfl
  | _, _, bs, .cons (d := d) h t, e => by
    cases d <;> simp only [bools, reduceCtorEq] at e
    obtain ⟨r, h1, h2⟩ := Option.map_eq_some_iff.mp e
    subst h2
    cases h
    rw [List.map_cons, bools_vals t h1]
theorem lf_all (hc : X.calm = true) : Lf1 p X (fun u => call (.builtin "all") [u]) allS := by
  intro pins s σ H A x u a m I tr rx ra e
  unfold allS at e
  split at e
  · rename_i q
    cases q
    obtain ⟨bs, h1, h2⟩ := Option.bind_eq_some_iff.mp e
    cases h2
    obtain ⟨a, vs, rfl, ha, qa⟩ := ra.lst
    exact cr_all hc pins s σ H [_] [u] _ I (.cons rx .nil) ⟨a, bs, rfl, by rw [← bools_vals qa h1]; exact ha, res_bl⟩
  · cases e
theorem lf_any (hc : X.calm = true) : Lf1 p X (fun u => call (.builtin "any") [u]) anyS := by
  intro pins s σ H A x u a m I tr rx ra e
  unfold anyS at e
  split at e
  · rename_i q
    cases q
    obtain ⟨bs, h1, h2⟩ := Option.bind_eq_some_iff.mp e
    cases h2
    obtain ⟨a, vs, rfl, ha, qa⟩ := ra.lst
    exact cr_any hc pins s σ H [_] [u] _ I (.cons rx .nil) ⟨a, bs, rfl, by rw [← bools_vals qa h1]; exact ha, res_bl⟩
  · cases e
theorem lf_tuple : Lf1 p X (fun u => call (.type "tuple") [u]) tupleS := by
  intro pins s σ H A x u a m I tr rx ra e
  unfold tupleS at e
  split at e
  · rename_i q
    cases q
    cases e
    obtain ⟨a, vs, rfl, ha, qa⟩ := ra.lst
    exact call_tuple_of pins s σ H [_] [u] _ I (.cons rx .nil) ⟨a, vs, rfl, .inl ⟨ha, fun l n => res_tup qa n (not_new tr n)⟩⟩
  · rename_i q
    cases q
    cases e
    obtain ⟨a, vs, rfl, ha, qa, na⟩ := ra.tup
    exact call_tuple_of pins s σ H [_] [u] _ I (.cons rx .nil) ⟨a, vs, rfl, .inr ⟨SqT.of ha, res_d (.tup ha na qa)⟩⟩
  · cases e
theorem lf_list : Lf1 p X (fun u => call (.type "list") [u]) listS := by
  intro pins s σ H A x u a m I tr rx ra e
  unfold listS at e
  split at e
  · rename_i q
    cases q
    cases e
    obtain ⟨a, vs, rfl, ha, qa⟩ := ra.lst
    exact call_list_of pins s σ H [_] [u] _ I (.cons rx .nil) ⟨a, vs, rfl, .inl ha, fun l n => res_lst qa n⟩
  · rename_i q
    cases q
    cases e
    obtain ⟨a, vs, rfl, ha, qa, na⟩ := ra.tup
    exact call_list_of pins s σ H [_] [u] _ I (.cons rx .nil) ⟨a, vs, rfl, .inr (SqT.of ha), fun l n => res_lst qa n⟩
  · cases e
theorem lf_abs : Lf1 p X (fun u => call (.builtin "abs") [u]) absS := lf_call call_abs fun H A x a m tr ra e => by
  unfold absS at e
  split at e
  · rename_i q
    cases q
    cases e
    exact ⟨_, by rw [ra.int], res_int⟩
  · cases e
theorem lf_int : Lf1 p X (fun u => call (.type "int") [u]) intS := lf_call call_int1 fun H A x a m tr ra e => by
  unfold intS at e
  split at e
  · rename_i q
    cases q
    cases e
    exact .inl ⟨_, by rw [ra.int], res_int⟩
  · rename_i q
    cases q
    cases e
    exact .inr ⟨_, by rw [ra.bool], res_int⟩
  · cases e
theorem lf_bool : Lf1 p X (fun u => call (.type "bool") [u]) boolS := lf_call call_bool1 fun H A x a m tr ra e => by
  unfold boolS at e
  split at e
  · rename_i q
    cases q
    cases e
    exact .inl ⟨_, by rw [ra.int], res_bl⟩
  · rename_i q
    cases q
    cases e
    exact .inr ⟨_, by rw [ra.bool], res_bl⟩
  · cases e
theorem lf_str : Lf1 p X (fun u => call (.type "str") [u]) strS := lf_call call_str_int fun H A x a m tr ra e => by
  unfold strS at e
  split at e
  · rename_i q
    cases q
    split at e
    · rename_i hz
      cases e
      exact ⟨_, by rw [ra.int], hz, res_str⟩
    · cases e
  · cases e
theorem lf_max2 (hc : X.calm = true) : Lf2 p X (fun u w => call (.builtin "max") [u, w]) max2S := lf_call2 (call_max2 hc) fun H A x y a b m tr ra rb e => by
  unfold max2S at e
  split at e
  · rename_i q
    cases q
    cases e
    exact ⟨_, _, by rw [ra.int, rb.int], res_int⟩
  · cases e
theorem lf_min2 (hc : X.calm = true) : Lf2 p X (fun u w => call (.builtin "min") [u, w]) min2S := lf_call2 (call_min2 hc) fun H A x y a b m tr ra rb e => by
  unfold min2S at e
  split at e
  · rename_i q
    cases q
    cases e
    exact ⟨_, _, by rw [ra.int, rb.int], res_int⟩
  · cases e
theorem lf_divmod : Lf2 p X (fun u w => call (.builtin "divmod") [u, w]) divmodS := lf_call2 call_divmod fun H A x y a b m tr ra rb e => by
  unfold divmodS at e
  split at e
  · rename_i q
    cases q
    split at e
    · rename_i hz
      cases e
      exact ⟨_, _, by rw [ra.int, rb.int], hz, fun q n => res_tup (.cons (.int _) (.cons (.int _) .nil)) n (not_new tr n)⟩
    · cases e
  · cases e
mutual
theorem noDict_plain : ∀ d : D, d.plain = true → d.hasDict = false
  | .none, _ | .bool _, _ | .int _, _ | .str _, _ => by simp only [PyData.hasDict]
  | .list xs, h => by simp only [PyData.hasDict]; exact noDict_plains xs (by simpa only [PyData.plain] using h)
  | .tuple xs, h => by simp only [PyData.hasDict]; exact noDict_plains xs (by simpa only [PyData.plain] using h)
  | .dict _, h => by simp [PyData.plain] at h
theorem noDict_plains : ∀ ds : List D, PyData.plainAll ds = true → PyData.hasDictAll ds = false
  | [], _ => by simp only [PyData.hasDictAll]
  | d :: ds, h => by
    simp only [PyData.plainAll, Bool.and_eq_true] at h
    simp only [PyData.hasDictAll, noDict_plain d h.1, noDict_plains ds h.2, Bool.or_self]
end
theorem lf_repr (hg : X.A.guards = some []) (hu : X.A.units + 64 < cLine) : Lf1 p X (fun u => call (.builtin "repr") [u]) reprS := by
  intro pins s σ H A x u a m I tr rx ra e
  have e' : (if okd a && a.showable && decide (a.shown.length ≤ line) then some (M.d (.str a.shown)) else none) = some m := e
  split at e'
  · rename_i g
    simp only [Bool.and_eq_true, decide_eq_true_eq] at g
    obtain ⟨⟨g1, g2⟩, g3⟩ := g
    rw [line_eq] at g3
    cases e'
    obtain ⟨p1, d1⟩ := okd_plain g1
    obtain ⟨as, r1⟩ := ra.reads I rx p1
    have fin : ∀ (h' : Heap) (u : Tok) (tk : Nat), (∀ b o, s.heap.get? b = some o → h'.get? b = some o) → EP X pins σ (Res p X.K H A (.d (.str a.shown))) (.str a.shown u) { s with heap := h', toks := tk } := fun h' u tk k =>
      ⟨.str a.shown, H, I.kept k, ⟨u, rfl⟩, res_str⟩
    cases r1 with
    | none => exact P.repr_of_none (fin s.heap _ _ fun _ _ q => q)
    | bool b => exact P.repr_of_bool (fin s.heap _ _ fun _ _ q => q)
    | int i t => exact P.repr_of_int (by simpa [PyData.showable] using g2) (fin s.heap _ _ fun _ _ q => q)
    | str z t => exact P.repr_of_str (fin s.heap _ _ fun _ _ q => q) g3
    | list h1 h2 h3 h4 => exact repr_of_reads' (.list h1 h2 h3 h4) g2 (fun z => by rw [noDict_plain _ p1] at z; cases z) hg (by omega) (fun _ _ q => q) fin g3
    | tuple h1 h2 h3 h4 => exact repr_of_reads' (.tuple h1 h2 h3 h4) g2 (fun z => by rw [noDict_plain _ p1] at z; cases z) hg (by omega) (fun _ _ q => q) fin g3
    | dict h1 h2 h3 h4 h5 => exact absurd p1 (by simp [PyData.plain])
  · cases e'

/-! sorted -/
open PySem.W in
theorem each_rp {K : PySem.W.Frag} {H : Hp} {A : AS} : ∀ {xs : List V} {vs : List Value} {ds : List D}, Vals xs vs → RpAll K H A xs ds → EachIs (fun u d => ∃ v, L2.RelV v u ∧ Rp K H A v d) vs ds
  | _, _, _, .nil, .nil => .nil
  | _, _, _, .cons r t, .cons h q => .cons ⟨_, r, h⟩ (each_rp t q)
open PySem.W in
theorem of_each {K : PySem.W.Frag} {H : Hp} {A : AS} : ∀ {vs : List Value} {ds : List D}, EachIs (fun u d => ∃ v, L2.RelV v u ∧ Rp K H A v d) vs ds → ∃ xs, Vals xs vs ∧ RpAll K H A xs ds
  | _, _, .nil => ⟨[], .nil, .nil⟩
  | _, _, .cons ⟨v, r, h⟩ t => by
    obtain ⟨xs, a, b⟩ := of_each t
    exact ⟨v :: xs, .cons r a, .cons h b⟩
theorem isIntD_of {x : D} (h : isIntD x = true) : ∃ i, x = .int i := by
  cases x <;> first | exact ⟨_, rfl⟩ | cases h
theorem isStrD_of {x : D} (h : isStrD x = true) : ∃ i, x = .str i := by
  cases x <;> first | exact ⟨_, rfl⟩ | cases h
theorem alikeAll_int : ∀ {xs ys : List D}, xs.all isIntD = true → ys.all isIntD = true → PySem.W.alikeAll xs ys = true
  | [], _, _, _ => by simp [PySem.W.alikeAll]
  | _ :: _, [], _, _ => by simp [PySem.W.alikeAll]
  | (x :: xs), (y :: ys), h, h'  => by
    simp only [List.all_cons, Bool.and_eq_true] at h h'
    obtain ⟨i, rfl⟩ := isIntD_of h.1
    obtain ⟨j, rfl⟩ := isIntD_of h'.1
    rw [PySem.W.alikeAll, alikeAll_int h.2 h'.2]
    simp [PySem.W.alike]
theorem alikeAll_str : ∀ {xs ys : List D}, xs.all isStrD = true → ys.all isStrD = true → PySem.W.alikeAll xs ys = true
  | [], _, _, _ => by simp [PySem.W.alikeAll]
  | _ :: _, [], _, _ => by simp [PySem.W.alikeAll]
  | (x :: xs), (y :: ys), h, h'  => by
    simp only [List.all_cons, Bool.and_eq_true] at h h'
    obtain ⟨i, rfl⟩ := isStrD_of h.1
    obtain ⟨j, rfl⟩ := isStrD_of h'.1
    rw [PySem.W.alikeAll, alikeAll_str h.2 h'.2]
    simp [PySem.W.alike]
theorem depthAll_int : ∀ {xs : List D}, xs.all isIntD = true → PyData.depthAll xs = 0
  | [], _ => rfl
  | x :: xs, h => by
    simp only [Bool.and_eq_true, List.all_cons] at h
    obtain ⟨i, rfl⟩ := isIntD_of h.1
    rw [PyData.depthAll, depthAll_int h.2]; rfl
theorem depthAll_str : ∀ {xs : List D}, xs.all isStrD = true → PyData.depthAll xs = 0
  | [], _ => rfl
  | x :: xs, h => by
    simp only [Bool.and_eq_true, List.all_cons] at h
    obtain ⟨i, rfl⟩ := isStrD_of h.1
    rw [PyData.depthAll, depthAll_str h.2]; rfl
theorem intTup_of {x : D} (h : intTup x = true) : ∃ y ys, x = .tuple (y :: ys) ∧ (y :: ys).all isIntD = true := by
  unfold intTup at h
  split at h
  · exact ⟨_, _, rfl, h⟩
  · cases h
theorem strTup_of {x : D} (h : strTup x = true) : ∃ y ys, x = .tuple (y :: ys) ∧ (y :: ys).all isStrD = true := by
  unfold strTup at h
  split at h
  · exact ⟨_, _, rfl, h⟩
  · cases h
open PySem.W in
theorem sortable_of {ds : List D} (h : sortable ds = true) : AllAlike ds ∧ Sortable ds ∧ ∀ d ∈ ds, d.depth ≤ 1 := by
  unfold sortable at h
  simp only [Bool.or_eq_true] at h
  rcases h with ((h | h) | h) | h
  · have k : ∀ d ∈ ds, ∃ i, d = .int i := fun d hd => isIntD_of (List.all_eq_true.mp h d hd)
    refine ⟨fun d hd d' hd' => ?_, .inr fun d hd => ?_, fun d hd => ?_⟩
    · obtain ⟨i, rfl⟩ := k d hd
      obtain ⟨j, rfl⟩ := k d' hd'
      simp [alike]
    · obtain ⟨i, rfl⟩ := k d hd
      exact ⟨(fun z => nomatch z), (fun _ z => nomatch z)⟩
    · obtain ⟨i, rfl⟩ := k d hd
      exact Nat.zero_le _
  · have k : ∀ d ∈ ds, ∃ i, d = .str i := fun d hd => isStrD_of (List.all_eq_true.mp h d hd)
    refine ⟨fun d hd d' hd' => ?_, .inr fun d hd => ?_, fun d hd => ?_⟩
    · obtain ⟨i, rfl⟩ := k d hd
      obtain ⟨j, rfl⟩ := k d' hd'
      simp [alike]
    · obtain ⟨i, rfl⟩ := k d hd
      exact ⟨(fun z => nomatch z), (fun _ z => nomatch z)⟩
    · obtain ⟨i, rfl⟩ := k d hd
      exact Nat.zero_le _
  · have k : ∀ d ∈ ds, ∃ y ys, d = .tuple (y :: ys) ∧ (y :: ys).all isIntD = true := fun d hd => intTup_of (List.all_eq_true.mp h d hd)
    refine ⟨fun d hd d' hd' => ?_, .inl fun d hd => ?_, fun d hd => ?_⟩
    · obtain ⟨y, ys, rfl, q⟩ := k d hd
      obtain ⟨y', ys', rfl, q'⟩ := k d' hd'
      have := alikeAll_int q q'
      simpa [alike] using this
    · obtain ⟨y, ys, rfl, q⟩ := k d hd
      exact ⟨y, ys, rfl⟩
    · obtain ⟨y, ys, rfl, q⟩ := k d hd
      have e : PyData.depth (.tuple (y :: ys)) = PyData.depthAll (y :: ys) + 1 := by rw [PyData.depth]
      rw [e, depthAll_int q]
      exact Nat.le_refl _
  · have k : ∀ d ∈ ds, ∃ y ys, d = .tuple (y :: ys) ∧ (y :: ys).all isStrD = true := fun d hd => strTup_of (List.all_eq_true.mp h d hd)
    refine ⟨fun d hd d' hd' => ?_, .inl fun d hd => ?_, fun d hd => ?_⟩
    · obtain ⟨y, ys, rfl, q⟩ := k d hd
      obtain ⟨y', ys', rfl, q'⟩ := k d' hd'
      have := alikeAll_str q q'
      simpa [alike] using this
    · obtain ⟨y, ys, rfl, q⟩ := k d hd
      exact ⟨y, ys, rfl⟩
    · obtain ⟨y, ys, rfl, q⟩ := k d hd
      have e : PyData.depth (.tuple (y :: ys)) = PyData.depthAll (y :: ys) + 1 := by rw [PyData.depth]
      rw [e, depthAll_str q]
      exact Nat.le_refl _
theorem call_tlt {prog : Program} {w : World} {A : Around} {s : Shared} {E : Value → Shared → Prop} {Q : Value → Shared → Prop} {l b : Addr} {items items2 : Array Value} {e r : Nat → Bool} (hl : s.heap.IsTuple l items) (hb : s.heap.IsTuple b items2)
    (he : ∀ j (h1 : j < items.size) (h2 : j < items2.size), SeqAt.EqAt A.in1 s items[j] items2[j] (e j)) (hr : ∀ j (h1 : j < items.size) (h2 : j < items2.size), e j = false → SeqAt.RcLt A.in1 s items[j] items2[j] (r j))
    (h : Q (.bool (SeqAt.firstLt e r (decide (items.size < items2.size)) (List.range (min items.size items2.size)))) s) : wpAny (model prog w) A (call (.builtin "tuple.__lt__") [.ref l, .ref b]) Q E s := by
  obtain ⟨⟨c1, dd, data, sl⟩, ho, hc, n, hd⟩ := id hl
  obtain ⟨⟨c2, dd2, data2, sl2⟩, ho2, hc2, n2, hd2⟩ := id hb
  simp only at hc hd hc2 hd2
  subst hc hd hc2 hd2
  exact call_meets PySem.F.slot_tuple_lt ⟨_, ho, rfl⟩ PySem.F.entry_tuple_lt (PySem.F.args_tuple_lt_2 _ _) (SeqAt.tuple_ltAt l b items items2 n n2 dd dd2 sl sl2 e r) ⟨ho, ho2, he, hr, h⟩
open PySem.W in
theorem oneLt_tup {prog : Program} {w : World} {A : Around} {E : Value → Shared → Prop} {s : Shared} {f : Bool} {da db : D} {a b : Value} {as bs : List Addr} {Q : Bool → Shared → Prop} (ra : Reads s.heap a da as) (rb : Reads s.heap b db bs) (h : alike da db = true) (hn : da ≠ .none)
    (hu : A.units + min da.depth db.depth < cLine) (hq : Q (dataLt da db) s) : wpAny (model prog w) A (oneLt' f a b) Q E s := by
  cases da with
  | tuple xs =>
    cases f with
    | false => exact oneLt_alike (fun z => by cases z) ra rb h hn hu hq
    | true =>
      cases db with
      | tuple ys =>
        have hal : alikeAll xs ys = true := by simpa [alike] using h
        cases ra with
        | @tuple l o vs n _ as₁ h1 h2 h3 h4 =>
          cases rb with
          | @tuple l' o' vs' n' _ bs₁ k1 k2 k3 k4 =>
            have n1 : vs.size = xs.length := by simpa using SeqAt.ReadsAll.length _ _ _ h4
            have n2 : vs'.size = ys.length := by simpa using SeqAt.ReadsAll.length _ _ _ k4
            rw [dataLt_tuple, ← firstLt_toks xs ys hal, ← n1, ← n2] at hq
            rw [oneLt'_eq]
            simp only [if_true]
            refine wpAny_bind (wpAny_cRoomFor (SeqAt.room_here hu) ?_)
            refine wpAny_bind (wpAny_callSpecialIfBound?_slot (T := "tuple") ⟨_, h1, h2⟩ PySem.F.slot_tuple_lt (call_tlt (e := SeqAt.pairEq xs ys) (r := fun j => dataLt (xs.getD j .none) (ys.getD j .none)) ⟨_, h1, h2, _, h3⟩ ⟨_, k1, k2, _, k3⟩ (fun j j1 j2 => ?_) (fun j j1 j2 hj => ?_) ?_))
            · have := eqAt_alikeAll xs ys A.in1 s vs.toList vs'.toList _ _ h4 k4 hal (SeqAt.room_in hu) j (by simpa using j1) (by simpa using j2)
              simpa using this
            · have := rcLt_alikeAll xs ys A.in1 s vs.toList vs'.toList _ _ h4 k4 hal (SeqAt.room_in hu) j (by simpa using j1) (by simpa using j2) hj
              simpa using this
            · exact wpAny_truthy_bool hq
      | _ => exact absurd h (by simp [alike])
  | _ => exact oneLt_alike (fun _ xs z => by cases z) ra rb h hn hu hq
theorem firsts_any {Mo : Model} {A : Around} {E : Value → Shared → Prop} {s : Shared} : ∀ (vs : List Value) {Q : List (Option Value) → Shared → Prop}, (∀ v ∈ vs, ∃ a o xs n, v = .ref a ∧ s.heap.get? a = some o ∧ o.cls = .type "tuple" ∧ o.data = .seq xs n) → (∀ fs, fs.length = vs.length → Q fs s) → wpAny Mo A (vs.mapM firstOfTuple') Q E s
  | [], _, _, h => by rw [List.mapM_nil]; exact wpAny_pure (h [] rfl)
  | v :: vs, Q, t, h => by
    obtain ⟨a, o, xs, n, rfl, ho, hc, hd⟩ := t v (.head _)
    rw [List.mapM_cons]
    refine wpAny_bind ?_
    rw [PySem.W.kas_first_eq]
    refine wpAny_bind (PySem.W.Looks.here (show PySem.W.Looks Mo s.heap (typeOf (.ref a)) o.cls from (PySem.W.Looks.ld ho).andThen .now) ?_)
    rw [hc, if_neg (by first | decide | simp)]
    refine wpAny_bind (listItems_at ho hd (wpAny_pure ?_))
    exact wpAny_bind (firsts_any vs (fun v hv => t v (.tail _ hv)) fun fs hl => wpAny_pure (h _ (by simp [hl])))
theorem kind_head {Mo : Model} {A : Around} {E : Value → Shared → Prop} {s : Shared} {vs : List Value} {v0 : Value} {Q : SortKind → Shared → Prop} (t : ∀ v ∈ v0 :: vs, ∃ a o xs n, v = .ref a ∧ s.heap.get? a = some o ∧ o.cls = .type "tuple" ∧ o.data = .seq xs n) (h0 : ∃ a o n, v0 = .ref a ∧ s.heap.get? a = some o ∧ o.cls = .type "tuple" ∧ o.data = .seq #[] n) (h : Q oneType' s) :
    wpAny Mo A (keyKind' (v0 :: vs).toArray) Q E s := by
  rw [kat_kind_eq, List.mapM_toArray, map_eq_pure_bind]
  refine wpAny_bind (wpAny_bind ?_)
  obtain ⟨a, o, n, rfl, ho, hc, hd⟩ := h0
  rw [List.mapM_cons]
  refine wpAny_bind ?_
  rw [PySem.W.kas_first_eq]
  refine wpAny_bind (PySem.W.Looks.here (show PySem.W.Looks Mo s.heap (typeOf (.ref a)) o.cls from (PySem.W.Looks.ld ho).andThen .now) ?_)
  rw [hc, if_neg (by first | decide | simp)]
  refine wpAny_bind (listItems_at ho hd (wpAny_pure ?_))
  refine wpAny_bind (firsts_any vs (fun v hv => t v (.tail _ hv)) fun fs hl => wpAny_pure (wpAny_pure ?_))
  rw [if_neg (by simp), if_neg (by simp)]
  rw [oneTypeOnly'_eq, List.mapM_toArray, map_eq_pure_bind]
  refine wpAny_bind (wpAny_bind (wpAny_bind (PySem.W.kas_mapM (r := Value.type "tuple") _ (fun v hv Q' hq => ?_) (wpAny_pure ?_))))
  · obtain ⟨b, o', xs, n', rfl, ho', hc', _⟩ := t v hv
    refine PySem.W.Looks.here (show PySem.W.Looks Mo s.heap (typeOf (.ref b)) o'.cls from (PySem.W.Looks.ld ho').andThen .now) ?_
    rw [hc']
    exact hq
  · have hall2 : ((List.map (fun _ => Value.type "tuple") (Value.ref a :: vs)).toArray.all fun x => x == Value.type "tuple") = true := by
      simp only [List.all_toArray, List.all_map, List.all_eq_true]
      intro _ _
      exact beq_self_eq_true _
    have h0 : (List.map (fun _ => Value.type "tuple") (Value.ref a :: vs)).toArray[0]? = some (Value.type "tuple") := by simp
    rw [h0]
    simp only [hall2, if_true]
    exact wpAny_pure (wpAny_pure h)
open PySem.W in
/-- the first one empty: sorted all the same -/
theorem sortsAt_head {prog : Program} {w : World} {A : Around} {s : Shared} {vs : List Value} {ds : List D} (e : EachIs (fun v d => ∃ as, Reads s.heap v d as) vs ds) (hal : AllAlike ds) (hk : headE ds = true) (hu : ∀ d, d ∈ ds → A.units + d.depth < cLine) : SortsAt prog w A s (dataKind s.heap ds) vs := by
  have room : ∀ {d d' : PyData}, d ∈ ds → A.units + min d.depth d'.depth < cLine := fun {d d'} hd => Nat.lt_of_le_of_lt (Nat.add_le_add_left (Nat.min_le_left _ _) _) (hu d hd)
  have htup : ∀ d ∈ ds, ∃ xs, d = .tuple xs := by
    unfold headE at hk
    split at hk
    · rename_i r
      intro d hd
      rcases (List.mem_cons.mp hd) with rfl | hd
      · exact ⟨_, rfl⟩
      · have := List.all_eq_true.mp hk d hd
        cases d <;> first | exact ⟨_, rfl⟩ | cases this
    · cases hk
  have tup : ∀ {v d as}, (∃ xs, d = PyData.tuple xs) → Reads s.heap v d as → ∃ a o xs n, v = .ref a ∧ s.heap.get? a = some o ∧ o.cls = .type "tuple" ∧ o.data = .seq xs n := fun {v d as} ⟨xs, hx⟩ r => by
    subst hx
    cases r with
    | @tuple a o xs n _ _ ho hc hd hr => exact ⟨a, o, xs, n, rfl, ho, hc, hd⟩
  refine ⟨fun v hv => ?_, oneType', ?_, fun h2 E Q hq => ?_⟩
  · obtain ⟨d, hd, as, r⟩ := e.left v hv
    exact ⟨_, dataKind_some hal hd r⟩
  · intro E x y a b Q ha hb hq
    obtain ⟨d, as, hd, ra, rfl⟩ := dataKind_inv ha
    obtain ⟨d', as', hd', rb, rfl⟩ := dataKind_inv hb
    rw [keyLt'_oneType]
    refine oneLt_tup ra rb (hal d hd d' hd') (fun z => ?_) (room hd) hq
    obtain ⟨xs, rfl⟩ := htup d hd
    cases z
  · have ht : ∀ v ∈ vs, ∃ a o xs n, v = .ref a ∧ s.heap.get? a = some o ∧ o.cls = .type "tuple" ∧ o.data = .seq xs n := fun v hv => by
      obtain ⟨d, hd, as, r⟩ := e.left v hv
      exact tup (htup d hd) r
    unfold headE at hk
    split at hk
    · rename_i r
      cases e with
      | cons h0 t =>
        obtain ⟨as, r0⟩ := h0
        refine kind_head ht ?_ hq
        cases r0 with
        | @tuple a o xs n _ _ ho hc hd hr =>
          have : xs = #[] := by
            cases q : xs.toList with
            | nil => exact Array.toList_eq_nil_iff.mp q
            | cons f fr =>
              rw [q] at hr
              cases hr
          subst this
          exact ⟨a, o, n, rfl, ho, hc, hd⟩
    · cases hk
theorem headE_of {ds : List D} (h : headE ds = true) : PySem.W.AllAlike ds ∧ ∀ d ∈ ds, d.depth ≤ 1 := by
  have k : ∀ d ∈ ds, ∃ xs, d = .tuple xs ∧ xs.all isIntD = true := by
    unfold headE at h
    split at h
    · rename_i r
      intro d hd
      rcases (List.mem_cons.mp hd) with rfl | hd
      · exact ⟨_, rfl, rfl⟩
      · have := List.all_eq_true.mp h d hd
        cases d <;> first | exact ⟨_, rfl, this⟩ | cases this
    · cases h
  refine ⟨fun d hd d' hd' => ?_, fun d hd => ?_⟩
  · obtain ⟨xs, rfl, q⟩ := k d hd
    obtain ⟨xs', rfl, q'⟩ := k d' hd'
    have := alikeAll_int q q'
    simpa [PySem.W.alike] using this
  · obtain ⟨xs, rfl, q⟩ := k d hd
    have e : PyData.depth (.tuple xs) = PyData.depthAll xs + 1 := by rw [PyData.depth]
    rw [e, depthAll_int q]
    exact Nat.le_refl _
open PySem.W in
theorem sorted_gen {pins : List (Addr × Obj)} {s : Shared} {σ : L2.St} {H : Hp} {A : AS} (I : Inv X pins σ H s) (hu : X.A.units + 64 < cLine) {x : Value} {Pd : List D → Prop} {out : List D}
    (good : ∀ ds, Pd ds → (sortable ds || headE ds) = true ∧ sortD ds = out ∧ ds.length ≤ sizeLine)
    (col : ∀ (E' : Value → Shared → Prop) (Q' : List Value → Shared → Prop), (∀ s1 vs xs ds, Inv X pins σ H s1 → Vals xs vs → RpAll X.K H A xs ds → Pd ds → Q' vs s1) → wpAny (model X.prog X.w) X.A.in1 (collect x) Q' E' s) :
    wpAny (model X.prog X.w) X.A (call (.builtin "sorted") [x]) (EP X pins σ (Res p X.K H A (.lst out))) X.xe s := by
  refine (Calls.call_function_entry kind_sorted plain_sorted entry_sorted (args_sorted1 _) ?_)
  unfold Builtin.«sorted»
  refine (wpAny_bind (m := checkCount "sorted" 1 1 _) (wpAny_pure ?_))
  refine wpAny_bind (col _ _ fun s1 vs xs ds I1 rv rp pd => ?_)
  obtain ⟨g1, g2, g3⟩ := good ds pd
  obtain ⟨hal, hk, hdp⟩ : AllAlike ds ∧ (Sortable ds ∨ headE ds = true) ∧ ∀ d ∈ ds, d.depth ≤ 1 := by
    rcases Bool.or_eq_true_iff.mp g1 with g | g
    · obtain ⟨h1, h2, h3⟩ := sortable_of g
      exact ⟨h1, .inl h2, h3⟩
    · obtain ⟨h1, h3⟩ := headE_of g
      exact ⟨h1, .inr g, h3⟩
  have hlen : vs.length = ds.length := by rw [← rv.length, rp.length]
  have hL : vs.length ≤ sizeLine := by rw [hlen]; exact g3
  refine (wpAny_bind (wpAny_newList ?_ hL))
  have hoL0 : (s1.heap.push (seqObj "list" vs.toArray 0)).get? s1.heap.objs.size = some (seqObj "list" vs.toArray 0) := Heap.get?_push_size _ rfl
  obtain ⟨as, rd⟩ := rp.reads I1 rv
  have erd : EachIs (fun v d => ∃ as, Reads (sortingHeap (s1.heap.push (seqObj "list" vs.toArray 0)) s1.heap.objs.size vs) v d as) vs ds := by
    have rd' : ReadsAll s1.heap vs (ds.map fun x => x) as := by rw [List.map_id']; exact rd
    exact (readsAll_each (fun x => x) rd').mono fun v d ⟨as, r⟩ => ⟨as, PyProof.Rows.Reads.keeps (fun b o q => sortingHeap_old (Nat.ne_of_lt (Heap.lt_size q)) (Heap.get?_push_of_some _ q)) r⟩
  have S : SortsAt X.prog X.w X.A.in1.in1 { s1 with heap := sortingHeap (s1.heap.push (seqObj "list" vs.toArray 0)) s1.heap.objs.size vs } (dataKind (sortingHeap (s1.heap.push (seqObj "list" vs.toArray 0)) s1.heap.objs.size vs) (ds.map fun x => x)) vs := by
    have hdd : ∀ d ∈ ds, X.A.in1.in1.units + d.depth < cLine := fun d hd => by
      have := hdp d hd
      show X.A.units + 1 + 1 + d.depth < cLine
      omega
    rw [List.map_id']
    rcases hk with hk | hk
    · exact SortsAt.data (s := { s1 with heap := sortingHeap (s1.heap.push (seqObj "list" vs.toArray 0)) s1.heap.objs.size vs }) erd hal hk hdd
    · exact sortsAt_head (s := { s1 with heap := sortingHeap (s1.heap.push (seqObj "list" vs.toArray 0)) s1.heap.objs.size vs }) erd hal hk hdd
  refine wpAny_bind (wpAny_holding (wpAny_call_entry_kw slot_list_sort ⟨_, hoL0, rfl⟩ entry_list_sort ?body (args_list_sort _)))
  show wpAny (model X.prog X.w) X.A.in1.in1 (Builtin.«list.sort» ⟨[.ref s1.heap.objs.size], []⟩) _ _ _
  have so := sortVals_data (rev := false) (each_rp rv rp) erd (by rw [List.map_id']; exact hal)
  refine list_sort_vals (s := { s1 with heap := s1.heap.push (seqObj "list" vs.toArray 0) }) hoL0 S hL ⟨_, rfl, wpAny_pure ⟨_, rfl, ?_⟩⟩
  obtain ⟨ys, ry, qy⟩ := of_each so
  obtain ⟨c, hc⟩ := sortedHeap_at (vs := vs) (out := (sortVals (dataKind (sortingHeap (s1.heap.push (seqObj "list" vs.toArray 0)) s1.heap.objs.size vs) (ds.map fun x => x)) false vs vs).toArray) hoL0
  have hl2 : ys.length ≤ sizeLine := by
    rw [qy.length, List.length_mergeSort]; exact g3
  have I3 := I1.laid (a := s1.heap.objs.size) (o := .lst ys) (h' := sortedHeap (s1.heap.push (seqObj "list" vs.toArray 0)) s1.heap.objs.size vs (sortVals (dataKind (sortingHeap (s1.heap.push (seqObj "list" vs.toArray 0)) s1.heap.objs.size vs) (ds.map fun x => x)) false vs vs).toArray) (t' := s1.toks) (fun b o q => by
    have hlt := Heap.lt_size q
    (rw [sortedHeap_old (Nat.ne_of_lt hlt) (by rw [size_push']; exact Nat.lt_succ_of_lt hlt)])
    exact Heap.get?_push_of_some _ q) (Nat.le_refl _) ⟨hl2, _, c, ry, hc⟩
  refine ⟨.ref s1.heap.objs.size, _, I3, rfl, ?_⟩
  rw [← g2]
  exact res_lst qy (I1.hok.fresh (Nat.le_refl _))
theorem entT_keys {K : PySem.W.Frag} {H : Hp} {A : AS} (tr : TrkA H A) : ∀ {kvs : List (List Key × V)} {ds : List (D × D)} {bs : List Addr}, EntT K H A kvs ds → IsKeys H kvs bs → RpAll K H A (bs.map V.ref) (ds.map (·.1))
  | _, _, _, .nil, r => by cases r; exact .nil
  | _, _, _, .cons (k := k) (a := a) ha _ t, r => by
    cases r with
    | cons r1 r2 =>
      refine .cons ?_ (entT_keys tr t r2)
      cases a <;> simp only [keysD, reduceCtorEq] at ha
      rename_i xs
      have rx : ∀ {xs : List D} {k : List Key}, xs.mapM keyD = some k → RpAll K H A (k.map kV) xs := fun {xs} => by
        induction xs with
        | nil => intro k e; simp at e; subst e; exact .nil
        | cons x xs ih =>
          intro k e
          simp only [List.mapM_cons, Option.pure_def, Option.bind_eq_bind, Option.some.injEq, Option.bind_eq_some_iff] at e
          obtain ⟨k0, h1, r, h2, e⟩ := e
          subst e
          refine .cons ?_ (ih h2)
          cases x <;> simp only [keyD, Option.some.injEq, reduceCtorEq] at h1 <;> subst h1
          · exact .int _
          · exact .str _
      exact .tup r1 (not_tup tr r1) (rx ha)
theorem entK_keys {K : PySem.W.Frag} {H : Hp} {A : AS} : ∀ {kvs : List (Key × V)} {ds : List (D × D)}, EntK K H A kvs ds → RpAll K H A (kvs.map fun p => kV p.1) (ds.map (·.1))
  | _, _, .nil => .nil
  | _, _, .cons (a := a) ha _ t => by
    refine .cons ?_ (entK_keys t)
    cases a <;> simp only [keyD, Option.some.injEq, reduceCtorEq] at ha <;> subst ha
    · exact .int _
    · exact .str _
theorem vals_keys : ∀ {ks : List Key} {us : List Value}, us.length = ks.length → (∀ (j : Nat) (k : Key) (v : Value), ks[j]? = some k → us[j]? = some v → keyIs k v = true) → Vals (ks.map kV) us
  | [], [], _, _ => .nil
  | [], (_ :: _), h, _ => by simp at h
  | (_ :: _), [], h, _ => by simp at h
  | k :: ks, u :: us, h, hk => by
    refine .cons ?_ (vals_keys (by simpa using h) fun j k' v h1 h2 => hk (j + 1) k' v (by simpa using h1) (by simpa using h2))
    have := hk 0 k u rfl rfl
    rcases keyIs_shape this with ⟨i, t, e1, e2⟩ | ⟨x, t, e1, e2⟩
    · subst e1; subst e2; exact ⟨t, rfl⟩
    · subst e1; subst e2; exact ⟨t, rfl⟩
theorem col_dK (hc : X.calm = true) {pins : List (Addr × Obj)} {s : Shared} {σ : L2.St} {H : Hp} {A : AS} {a : Addr} {kvs : List (Key × V)} {ds : List (D × D)} (I : Inv X pins σ H s) (e : H a = some (.dK kvs)) (q : EntK X.K H A kvs ds)
    (E' : Value → Shared → Prop) (Q' : List Value → Shared → Prop) (k : ∀ s1 vs xs, Inv X pins σ H s1 → Vals xs vs → RpAll X.K H A xs (ds.map (·.1)) → Q' vs s1) : wpAny (model X.prog X.w) X.A.in1 (collect (.ref a)) Q' E' s := by
  obtain ⟨z, lo, vs, rel, dd⟩ := dk_rd I.hok (.inl e)
  obtain ⟨ep, hat⟩ := dd.dictAt
  have hl : vs.length = kvs.length := rel.length.symm
  refine PySem.W.kdu_collect (A := X.A.in1) (PySem.W.kdl_dict (knd := mixKind X.prog X.w) (kvs := vs) (ep := ep) lo) (I.ok.hd hc) hat (by omega) fun h' tk acc hk hacc => ?_
  refine k _ _ _ (I.kept hk) ?_ (entK_keys q)
  have hm : (kvs.map fun p => kV p.1) = (kvs.map (·.1)).map kV := by rw [List.map_map]; rfl
  rw [hm]
  refine vals_keys (by rw [Array.length_toList, hacc.1, List.length_map]; exact hl) fun j k v h1 h2 => ?_
  obtain ⟨k2, x, e1, e2⟩ := hacc.2 j v (by rw [← Array.getElem?_toList]; exact h2)
  have e3 : (vs.map (·.1))[j]? = some k2 := by rw [List.getElem?_map, e1]; rfl
  rw [← rel.keys, h1] at e3
  cases e3
  exact e2
theorem col_dT (hc : X.calm = true) {pins : List (Addr × Obj)} {s : Shared} {σ : L2.St} {H : Hp} {A : AS} (tr : TrkA H A) {a : Addr} {kvs : List (List Key × V)} {ds : List (D × D)} (I : Inv X pins σ H s) (e : H a = some (.dT kvs)) (q : EntT X.K H A kvs ds)
    (E' : Value → Shared → Prop) (Q' : List Value → Shared → Prop) (k : ∀ s1 vs xs, Inv X pins σ H s1 → Vals xs vs → RpAll X.K H A xs (ds.map (·.1)) → Q' vs s1) : wpAny (model X.prog X.w) X.A.in1 (collect (.ref a)) Q' E' s := by
  obtain ⟨z, hs, ks, prd, o, es, ep, ho, hx, hdt, he, hn⟩ := I.hok a _ e
  have l1 : es.size = ks.length := by
    have := congrArg List.length he
    rw [List.length_map, Array.length_toList] at this
    exact this
  have len2 : kvs.length = ks.length := Paired.length prd
  refine PySem.W.kdu_collect (A := X.A.in1) (kdl_raw hs hx hdt) (I.ok.hd hc) ho (by omega) fun h' tk acc hk hacc => ?_
  refine k _ _ _ (I.kept hk) ?_ (entT_keys tr q (isKeys_of prd))
  have ea : acc.toList = (ks.map fun x => x.2.1).map Value.ref := by
    rw [List.map_map]
    refine (List.ext_getElem? fun j => ?_)
    rw [List.getElem?_map]
    cases hj : acc.toList[j]? with
    | none =>
      have h1 := (List.getElem?_eq_none_iff.mp hj)
      rw [Array.length_toList, hacc.1] at h1
      rw [List.getElem?_eq_none (by omega)]; rfl
    | some v =>
      obtain ⟨en, hen, hv⟩ := hacc.2 j v (by rw [← Array.getElem?_toList]; exact hj)
      have qe : es.toList[j]? = some en := by rw [Array.getElem?_toList]; exact hen
      rw [he, List.getElem?_map] at qe
      cases hb : ks[j]? with
      | none => rw [hb] at qe; cases qe
      | some b =>
        rw [hb] at qe
        have e2 := Option.some.inj qe
        rw [hv, ← e2]; rfl
  rw [ea]
  exact vals_refs _
theorem lf_sorted (hc : X.calm = true) (hu : X.A.units + 64 < cLine) : Lf1 p X (fun u => call (.builtin "sorted") [u]) sortedS := by
  intro pins s σ H A x u a m I tr rx ra e
  unfold sortedS at e
  split at e
  · rename_i xs q
    cases q
    split at e
    · rename_i g
      cases e
      obtain ⟨a, vs, its, n, rfl, qa, va, za, ea⟩ := ra.obj I
      cases rx
      refine sorted_gen (Pd := fun ds => ds = xs) I hu (fun ds e => by subst e; exact ⟨g, rfl, by rw [← qa.length]; exact za⟩) fun E' Q' k => ?_
      refine wpAny_collect_seq (items := its.toArray) a (.inl rfl) ea rfl rfl (fun h' kp => k _ _ _ _ (I.kept (t' := s.toks) kp) va qa rfl) ?_
      rw [List.size_toArray, ← va.length]; exact za
    · cases e
  · rename_i xs q
    cases q
    split at e
    · rename_i g
      cases e
      obtain ⟨a, vs, rfl, ha, qa, na⟩ := ra.tup
      cases rx
      obtain ⟨its, rv, ⟨o, eo, ec, n, ed⟩, za⟩ := I.tuple (SqT.of ha)
      refine sorted_gen (Pd := fun ds => ds = xs) I hu (fun ds e => by subst e; exact ⟨g, rfl, by rw [← qa.length]; exact za⟩) fun E' Q' k => ?_
      refine wpAny_collect_seq (items := its.toArray) a (.inr rfl) eo ec ed (fun h' kp => k _ _ _ _ (I.kept (t' := s.toks) kp) rv qa rfl) ?_
      rw [List.size_toArray, ← rv.length]; exact za
    · cases e
  · rename_i kvs q
    cases q
    split at e
    · rename_i g
      cases e
      obtain ⟨g1, g2⟩ := Bool.and_eq_true_iff.mp g
      cases ra with
      | p r => cases r
      | dk ea qa =>
        cases rx
        obtain ⟨z, _⟩ := I.hok _ _ ea
        exact sorted_gen (Pd := fun ds => ds = kvs.map (·.1)) I hu (fun ds e => by subst e; exact ⟨by rw [g1]; rfl, rfl, by rw [List.length_map, ← qa.length]; exact z⟩) fun E' Q' k => col_dK hc I ea qa E' Q' fun s1 vs xs I1 h1 h2 => k s1 vs xs _ I1 h1 h2 rfl
      | dt ea qa =>
        cases rx
        obtain ⟨z, _⟩ := I.hok _ _ ea
        exact sorted_gen (Pd := fun ds => ds = kvs.map (·.1)) I hu (fun ds e => by subst e; exact ⟨by rw [g1]; rfl, rfl, by rw [List.length_map, ← qa.length]; exact z⟩) fun E' Q' k => col_dT hc tr I ea qa E' Q' fun s1 vs xs I1 h1 h2 => k s1 vs xs _ I1 h1 h2 rfl
    · cases e
  · cases e

/-! isinstance, items, slices -/
def tyName : Ty → String
  | .int => "int"
  | .bool => "bool"
  | .str => "str"
  | .tuple => "tuple"
  | .list => "list"
  | .none_ => "NoneType"
theorem lf_isi (t : Ty) : Lf1 p X (fun u => call (.builtin "isinstance") [u, .type (tyName t)]) (isiS [t]) := by
  intro pins s σ H A x u a m I tr rx ra e
  have e' : (if isDictD a then none else bl ([t].any fun t => t.is a)) = some m := e
  split at e'
  · cases e'
  · rename_i hd
    cases e'
    obtain ⟨as, r⟩ := ra.reads' I rx (by simpa using hd)
    have eb : ([t].any fun t => t.is a) = t.is a := by simp
    rw [eb]
    cases t with
    | int => exact PySem.W.isinstance_int_data r fun tk _ => ep_bl (I.tok tk) _
    | bool => exact PySem.W.isinstance_bool_data r fun tk _ => ep_bl (I.tok tk) _
    | str => exact PySem.W.isinstance_str_data r fun tk _ => ep_bl (I.tok tk) _
    | tuple => exact PySem.W.isinstance_tuple_data r fun tk _ => ep_bl (I.tok tk) _
    | list => exact PySem.W.isinstance_list_data r fun tk _ => ep_bl (I.tok tk) _
    | none_ => exact PySem.W.isinstance_NoneType_data r fun tk _ => ep_bl (I.tok tk) _
theorem place_ix {α : Type} (xs : List α) (i : Int) : ((place i xs.length).bind fun k => xs[k]?) = atI xs i := rfl
/-- x[i] -/
def Lfx (p : PC) (X : Cx) (g : List D → Option M) : Prop :=
  ∀ (value slice : Expr) (pins : List (Addr × Obj)) (s : Shared) (σ : L2.St) (H : Hp) (A : AS) (x y : V) (u w : Value) (a b : D) (m : M), Inv X pins σ H s → TrkA H A → RelV x u → RelV y w → Rn X.K H A x a → Rn X.K H A y b → g [a, b] = some m →
    subscripted slice false u w = operate [u, w] (getItem u w) → wpAny (model X.prog X.w) X.A (subscriptTail value slice u w) (EP X pins σ (Res p X.K H A m)) X.xe s
theorem lf_idx (hu : X.A.units + 64 < cLine) : Lfx p X idxS := by
  intro value slice pins s σ H A x y u w a b m I tr rx ry ra rb e hs
  unfold idxS at e
  split at e
  · rename_i xs i q
    cases q
    obtain ⟨d, h1, h2⟩ := Option.map_eq_some_iff.mp e
    subst h2
    obtain ⟨a, vs, rfl, ha, qa, na⟩ := ra.tup
    rw [rb.int] at ry
    have ea : ∃ v, atI vs i = some v ∧ Rp X.K H A v d := by
      rw [place_ix] at h1
      unfold atI at h1 ⊢
      rw [qa.length]
      obtain ⟨k, e1, e2⟩ := Option.bind_eq_some_iff.mp h1
      obtain ⟨v, f1, f2⟩ := qa.get e2
      exact ⟨v, by rw [e1]; exact f1, f2⟩
    obtain ⟨v, e1, e2⟩ := ea
    exact ix_tup value slice pins s σ H _ _ u w _ I rx ry ⟨a, vs, i, v, rfl, rfl, SqT.of ha, e1, res_d e2⟩ hs
  · rename_i xs i q
    cases q
    obtain ⟨d, h1, h2⟩ := Option.map_eq_some_iff.mp e
    subst h2
    obtain ⟨a, vs, rfl, ha, qa⟩ := ra.lst
    rw [rb.int] at ry
    have ea : ∃ v, atI vs i = some v ∧ Rp X.K H A v d := by
      rw [place_ix] at h1
      unfold atI at h1 ⊢
      rw [qa.length]
      obtain ⟨k, e1, e2⟩ := Option.bind_eq_some_iff.mp h1
      obtain ⟨v, f1, f2⟩ := qa.get e2
      exact ⟨v, by rw [e1]; exact f1, f2⟩
    obtain ⟨v, e1, e2⟩ := ea
    exact ix_list value slice pins s σ H _ _ u w _ I rx ry ⟨a, vs, i, v, rfl, rfl, ha, e1, res_d e2⟩ hs
  · rename_i ds k q
    cases q
    split at e
    · rename_i g
      obtain ⟨d, h1, h2⟩ := Option.map_eq_some_iff.mp e
      subst h2
      obtain ⟨a, H1, o, rfl, I1, dg, bk, f1, f2⟩ := dget_of I rb ra g
      obtain ⟨v, eo, rv⟩ := f1 d h1
      subst eo
      (cases (show u = Value.ref a from rx))
      refine tail_any (ops := [.ref a, w]) (dict_typeIs I1 dg) PySem.F.slot_dict_getitem.lookup ?_ hs
      exact d_getItem (by omega) I1 dg ry fun w' s3 I3 rw' => ⟨v, H, bk _ I3, rw', res_d rv⟩
    · cases e
  · cases e
theorem cut_vs {K : PySem.W.Frag} {H : Hp} {A : AS} {vs : List V} {xs : List D} (q : RpAll K H A vs xs) (lo hi : Option Int) : RpAll K H A (cutV vs lo hi) (cut xs lo hi) := by
  have e : ∀ n d o, HT.sIx n d o = cutAt n d o := fun n d o => by cases o <;> rfl
  unfold cutV cut
  rw [e, e, q.length]
  exact (q.drop _).take _
def Lfs (p : PC) (X : Cx) (lo hi : Option Int) : Prop :=
  (∀ (x : V) (H : Hp) (A : AS) (xs : List D), TrkA H A → Rn X.K H A x (.tuple xs) → ∀ Q : VK, (∀ v H', Res p X.K H A (.d (.tuple (cut xs lo hi))) v H' → Q v H') → rSlA X.K x lo hi H Q) ∧
  ∀ (x : V) (H : Hp) (A : AS) (xs : List D), TrkA H A → Rn X.K H A x (.list xs) → ∀ Q : VK, (∀ v H', Res p X.K H A (.lst (cut xs lo hi)) v H' → Q v H') → rSlL X.K x lo hi H Q
theorem lf_slice (lo hi : Option Int) : Lfs p X lo hi := by
  constructor
  · intro x H A xs tr ra Q k
    obtain ⟨a, vs, rfl, ha, qa, na⟩ := ra.tup
    refine ⟨a, vs, rfl, SqT.of ha, fun w => k _ _ ?_, fun _ p n => k _ _ (res_tup (cut_vs qa lo hi) n (not_new tr n))⟩
    have e : ∀ n d o, HT.sIx n d o = cutAt n d o := fun n d o => by cases o <;> rfl
    rw [e, e, qa.length] at w
    have : cut xs lo hi = xs := by
      unfold cut
      rw [w.1, w.2, List.drop_zero, Nat.sub_zero, List.take_length]
    rw [this]
    exact res_d (.tup ha na qa)
  · intro x H A xs tr ra Q k
    obtain ⟨a, vs, rfl, ha, qa⟩ := ra.lst
    exact ⟨a, vs, rfl, ha, fun p n => k _ _ (res_lst (cut_vs qa lo hi) n)⟩
end
end Mn
/-! Mn, part D: the machine's expressions are what the text's expressions do. -/
namespace Mn
open PySem L2 PySem.Spec
open PyProof.Rows hiding St

def Own (own : Nat → AS) : AS := fun a => ∃ i, own i a
def or_ (A B : AS) : AS := fun a => A a ∨ B a
/-- one slot's footprint changed -/
def pt (own : Nat → AS) (i : Nat) (fp : AS) : Nat → AS := fun j => if j = i then fp else own j
theorem pt_same {own : Nat → AS} {i : Nat} {fp : AS} : pt own i fp i = fp := by unfold pt; rw [if_pos rfl]
theorem pt_ne {own : Nat → AS} {i j : Nat} {fp : AS} (h : j ≠ i) : pt own i fp j = own j := by unfold pt; rw [if_neg h]

/-- the frame's slots -/
structure FR (p : PC) (K : PySem.W.Frag) (F : AS) (σ : L2.St) (H : Hp) (fr : Fr) (own : Nat → AS) : Prop where
  len : fr.length = σ.length
  slot : ∀ i m, getS fr i = some m → ∃ v, σ[i]? = some (some v) ∧ MR p K H (or_ F (Own own)) v m (own i)
  non : ∀ i, getS fr i = none → ∀ a, ¬ own i a
  disj : ∀ i j a, own i a → own j a → i = j
  forn : ∀ i a, own i a → ¬ F a
  trk : TrkA H F

theorem getS_set {fr : Fr} {i j : Nat} {o : Option M} (hi : i < fr.length) : getS (fr.set i o) j = if j = i then o else getS fr j := by
  unfold getS
  by_cases e : j = i
  · subst e
    rw [List.getElem?_set_self hi, if_pos rfl]
    rfl
  · rw [List.getElem?_set_ne (Ne.symm e), if_neg e]
theorem getS_lt {fr : Fr} {i : Nat} {m : M} (h : getS fr i = some m) : i < fr.length := by
  unfold getS at h
  cases q : fr[i]? with
  | none => rw [q] at h; cases h
  | some o => exact (List.getElem?_eq_some_iff.mp q).1
section
variable {p : PC} {K : PySem.W.Frag} {H H' : Hp} {A A' F F' W W' fp : AS} {v : V} {m : M} {σ : L2.St} {fr : Fr} {own : Nat → AS}
theorem M0.trkA (h : M0 K H A v m fp) : TrkA H fp := fun a ha => by
  cases h with
  | d r n => exact (n a ha).elim
  | lst e r f => rw [(f a).mp ha]; exact ⟨_, e, fun xs z => by cases z⟩
  | lck e r f => rw [(f a).mp ha]; exact ⟨_, e, fun xs z => by cases z⟩
  | dicK e r f => rw [(f a).mp ha]; exact ⟨_, e, fun xs z => by cases z⟩
  | dicT e r f => rw [(f a).mp ha]; exact ⟨_, e, fun xs z => by cases z⟩
theorem MR.trkA (h : MR p K H A v m fp) : TrkA H fp := fun a ha => by
  cases h with
  | b h => exact h.trkA a ha
  | ins e f n q =>
    rename_i fs fo
    rcases (q a).mp ha with rfl | ⟨i, hi⟩
    · exact ⟨_, e, fun xs z => by cases z⟩
    · cases g : fget i fs with
      | none => exact (f.no i g a hi).elim
      | some m => obtain ⟨v, _, h2⟩ := f.has i m g; exact h2.trkA a hi
theorem FR.own_trk (f : FR p K F σ H fr own) : TrkA H (Own own) := fun a ⟨i, ha⟩ => by
  cases g : getS fr i with
  | none => exact (f.non i g a ha).elim
  | some m => obtain ⟨v, _, h2⟩ := f.slot i m g; exact h2.trkA a ha
theorem FR.all_trk (f : FR p K F σ H fr own) : TrkA H (or_ F (Own own)) := fun a h => h.elim (f.trk a) (f.own_trk a)
theorem kk_of (kt : KT K H') (tr : TrkA H' W') : ∀ a o, K.lookup a = some o → ¬ W' a := fun a o e z => by
  obtain ⟨u, h, _⟩ := tr a z
  rw [kt a o e] at h; cases h
/-- fewer foreign things -/
theorem FR.weak (f : FR p K F σ H fr own) (h : ∀ a, F' a → F a) : FR p K F' σ H fr own :=
  ⟨f.len, fun i m e => let ⟨v, h1, h2⟩ := f.slot i m e; ⟨v, h1, h2.imp fun a z => z.elim (fun q => .inl (h a q)) .inr⟩, f.non, f.disj, fun i a z q => f.forn i a z (h a q), fun a z => f.trk a (h a z)⟩
/-- something changed that is not the frame's -/
theorem FR.stepW (f : FR p K F σ H fr own) (kt : KT K H') (st : Step H W H' W') (wf : ∀ a, W a → F a) (ff : ∀ a, F' a → F a ∨ W' a) (tr : TrkA H' F') (tw : TrkA H' W') : FR p K F' σ H' fr own := by
  refine ⟨f.len, fun i m e => ?_, f.non, f.disj, fun i a z q => ?_, tr⟩
  · obtain ⟨v, h1, h2⟩ := f.slot i m e
    exact ⟨v, h1, h2.step (kk_of kt tw) st (fun a z => .inl (wf a z)) (fun a z => z.elim (fun q => (ff a q).imp .inl id) fun q => .inl (.inr q)) fun a z q => f.forn i a z (wf a q)⟩
  · rcases ff a q with q | q
    · exact f.forn i a z q
    · rcases st.2 a q with q | q
      · exact f.forn i a z (wf a q)
      · obtain ⟨o, e, _⟩ := f.own_trk a ⟨i, z⟩
        rw [q] at e; cases e
/-- new things, foreign -/
theorem TrkA.grow (t : TrkA H A) (g : Grow H H') : TrkA H' A := fun a z => let ⟨o, e, n⟩ := t a z; ⟨o, g a o e, n⟩
theorem TrkA.or (t : TrkA H A) (u : TrkA H A') : TrkA H (or_ A A') := fun a z => z.elim (t a) (u a)
theorem Grow.step (g : Grow H H') (n : ∀ a, fp a → H a = none) : Step H noA H' fp := ⟨fun a o e _ => g a o e, fun a z => .inr (n a z)⟩
theorem FR.grow (f : FR p K F σ H fr own) (kt : KT K H') (g : Grow H H') (n : ∀ a, fp a → H a = none) (tr : TrkA H' fp) : FR p K (or_ F fp) σ H' fr own :=
  f.stepW kt (g.step n) (fun _ z => z.elim) (fun _ z => z) ((f.trk.grow g).or tr) tr
/-- a thing at hand goes into a slot -/
theorem FR.asg {i : Nat} (f : FR p K (or_ F fp) σ H fr own) (h : MR p K H (or_ (or_ F fp) (Own own)) v m fp) (dj : ∀ a, fp a → ¬ F a) (hi : i < σ.length) : FR p K F (σ.set i (some v)) H (fr.set i (some m)) (pt own i fp) := by
  have hf : i < fr.length := by rw [f.len]; exact hi
  have aa : ∀ a, or_ F (Own (pt own i fp)) a → or_ (or_ F fp) (Own own) a := fun a z => by
    rcases z with z | ⟨j, z⟩
    · exact .inl (.inl z)
    · by_cases e : j = i
      · subst e; rw [pt_same] at z; exact .inl (.inr z)
      · rw [pt_ne e] at z; exact .inr ⟨j, z⟩
  refine ⟨by rw [List.length_set, List.length_set]; exact f.len, fun j m' e => ?_, fun j e a z => ?_, fun j k a y z => ?_, fun j a z q => ?_, fun a z => f.trk a (.inl z)⟩
  · rw [getS_set hf] at e
    by_cases q : j = i
    · subst q
      rw [if_pos rfl] at e
      cases e
      rw [pt_same]
      exact ⟨v, List.getElem?_set_self hi, h.imp aa⟩
    · rw [if_neg q] at e
      rw [pt_ne q]
      obtain ⟨w, h1, h2⟩ := f.slot j m' e
      exact ⟨w, by rw [List.getElem?_set_ne (Ne.symm q)]; exact h1, h2.imp aa⟩
  · rw [getS_set hf] at e
    by_cases q : j = i
    · rw [if_pos q] at e; cases e
    · rw [if_neg q] at e
      rw [pt_ne q] at z
      exact f.non j e a z
  · by_cases q : j = i
    · by_cases r : k = i
      · rw [q, r]
      · rw [q, pt_same] at y
        rw [pt_ne r] at z
        exact absurd (.inr y) (f.forn k a z)
    · by_cases r : k = i
      · rw [r, pt_same] at z
        rw [pt_ne q] at y
        exact absurd (.inr z) (f.forn j a y)
      · rw [pt_ne q] at y
        rw [pt_ne r] at z
        exact f.disj j k a y z
  · by_cases r : j = i
    · rw [r, pt_same] at z
      exact dj a z q
    · rw [pt_ne r] at z
      exact f.forn j a z (.inl q)
/-- a slot's thing comes to hand -/
theorem FR.out {i : Nat} (f : FR p K F σ H fr own) : FR p K (or_ F (own i)) σ H (fr.set i none) (pt own i noA) := by
  by_cases hf : i < fr.length
  · have aa : ∀ a, or_ (or_ F (own i)) (Own (pt own i noA)) a → or_ F (Own own) a := fun a z => by
      rcases z with (z | z) | ⟨j, z⟩
      · exact .inl z
      · exact .inr ⟨i, z⟩
      · by_cases e : j = i
        · subst e; rw [pt_same] at z; exact z.elim
        · rw [pt_ne e] at z; exact .inr ⟨j, z⟩
    refine ⟨by rw [List.length_set]; exact f.len, fun j m' e => ?_, fun j e a z => ?_, fun j k a y z => ?_, fun j a z q => ?_, f.trk.or fun a z => f.own_trk a ⟨i, z⟩⟩
    · rw [getS_set hf] at e
      by_cases q : j = i
      · rw [if_pos q] at e; cases e
      · rw [if_neg q] at e
        rw [pt_ne q]
        obtain ⟨w, h1, h2⟩ := f.slot j m' e
        exact ⟨w, h1, h2.imp aa⟩
    · rw [getS_set hf] at e
      by_cases q : j = i
      · subst q; rw [pt_same] at z; exact z
      · rw [if_neg q] at e
        rw [pt_ne q] at z
        exact f.non j e a z
    · by_cases q : j = i
      · rw [q, pt_same] at y; exact y.elim
      · by_cases r : k = i
        · rw [r, pt_same] at z; exact z.elim
        · rw [pt_ne q] at y
          rw [pt_ne r] at z
          exact f.disj j k a y z
    · by_cases r : j = i
      · rw [r, pt_same] at z; exact z
      · rw [pt_ne r] at z
        rcases q with q | q
        · exact f.forn j a z q
        · exact r (f.disj j i a z q)
  · have e0 : getS fr i = none := by unfold getS; rw [List.getElem?_eq_none (by omega)]; rfl
    have n0 := f.non i e0
    have e1 : fr.set i none = fr := by rw [List.set_eq_of_length_le (by omega)]
    have e2 : pt own i noA = own := by
      funext j
      by_cases q : j = i
      · subst q; rw [pt_same]; funext a; exact propext ⟨fun z => z.elim, fun z => n0 a z⟩
      · rw [pt_ne q]
    rw [e1, e2]
    exact f.weak fun a z => z.elim id fun q => (n0 a q).elim
/-- what M reads as, the model reads -/
theorem M0.rn {x : D} (h : M0 K H A v m fp) (e : m.rd = some x) : Rn K H A v x := by
  cases h with
  | d r n => cases e; exact .p r
  | lst h r f => cases e; exact .ow h r
  | lck h r f => cases e; exact .lk h r
  | dicK h r f => cases e; exact .dk h r
  | dicT h r f => cases e; exact .dt h r
theorem MR.rn {x : D} (h : MR p K H A v m fp) (e : m.rd = some x) : Rn K H A v x := by
  cases h with
  | b h => exact h.rn e
  | ins _ _ _ _ => cases e
theorem MR.dat {x : D} (h : MR p K H A v (.d x) fp) : Rp K H A v x ∧ ∀ a, ¬ fp a := by
  cases h with
  | b h => cases h with
    | d r n => exact ⟨r, n⟩
theorem MR.lst {xs : List D} (h : MR p K H A v (.lst xs) fp) : ∃ a vs, v = .ref a ∧ H a = some (.lst vs) ∧ RpAll K H A vs xs ∧ ∀ b, fp b ↔ b = a := by
  cases h with
  | b h => cases h with
    | lst e r f => exact ⟨_, _, rfl, e, r, f⟩
end

/-! ### the canonical readings -/
def WE (X : Cx) (e : Expr) : TE := fun σ H Q => ∀ (pins : List (Addr × Obj)) (s : Shared), Inv X pins σ H s → wpAny (model X.prog X.w) X.A (eval e X.env) (EP X pins σ Q) X.xe s
def WT (X : Cx) (e : Expr) : TT := fun σ H Q => ∀ (pins : List (Addr × Obj)) (s : Shared), Inv X pins σ H s → wpAny (model X.prog X.w) X.A (isTrue e X.env (eval e X.env)) (TP X pins σ Q) X.xe s
def WW (X : Cx) (e : Expr) : TT := fun σ H Q => ∀ (wh : Sem Value) (pins : List (Addr × Obj)) (s : Shared), Inv X pins σ H s → wpAny (model X.prog X.w) X.A (isTrue e X.env wh) (TP X pins σ Q) X.xe s
def WEs (X : Cx) : List Expr → TA
  | [], _, H, Q => Q [] H
  | e :: r, σ, H, Q => WE X e σ H fun v H1 => WEs X r σ H1 fun vs H2 => Q (v :: vs) H2
def rW2 (X : Cx) (f : Value → Value → Sem Value) : R2 := fun x y H Q => ∀ (pins : List (Addr × Obj)) (s : Shared) (σ : L2.St) (u w : Value), Inv X pins σ H s → RelV x u → RelV y w → wpAny (model X.prog X.w) X.A (f u w) (EP X pins σ Q) X.xe s
def rW1 (X : Cx) (f : Value → Sem Value) : V → Hp → VK → Prop := fun x H Q => ∀ (pins : List (Addr × Obj)) (s : Shared) (σ : L2.St) (u : Value), Inv X pins σ H s → RelV x u → wpAny (model X.prog X.w) X.A (f u) (EP X pins σ Q) X.xe s
def rWN (X : Cx) (f : List Value → Sem Value) : List V → Hp → VK → Prop := fun xs H Q => ∀ (pins : List (Addr × Obj)) (s : Shared) (σ : L2.St) (us : List Value), Inv X pins σ H s → Vals xs us → wpAny (model X.prog X.w) X.A (f us) (EP X pins σ Q) X.xe s
section
variable {X : Cx}
theorem pe_we {e : Expr} : PE X e (WE X e) := ⟨fun pins s σ H Q I h => h pins s I⟩
theorem pt_wt {e : Expr} : PT X e (WT X e) := ⟨fun pins s σ H Q I h => h pins s I⟩
theorem pw_ww {e : Expr} : PW X e (WW X e) := ⟨fun wh pins s σ H Q I h => h wh pins s I⟩
theorem we_of {e : Expr} {t : TE} (h : PE X e t) {σ : L2.St} {H : Hp} {Q : VK} (k : t σ H Q) : WE X e σ H Q := fun pins s I => h.run pins s σ H Q I k
theorem wt_of {e : Expr} {t : TT} (h : PT X e t) {σ : L2.St} {H : Hp} {Q : Bool → Hp → Prop} (k : t σ H Q) : WT X e σ H Q := fun pins s I => h.run pins s σ H Q I k
theorem ww_of {e : Expr} {t : TT} (h : PW X e t) {σ : L2.St} {H : Hp} {Q : Bool → Hp → Prop} (k : t σ H Q) : WW X e σ H Q := fun wh pins s I => h.run wh pins s σ H Q I k
theorem opr_w2 {f : Value → Value → Sem Value} : OpR X f (rW2 X f) := fun pins s σ H x y u w Q I rx ry h => h pins s σ u w I rx ry
theorem unr_w1 {f : Value → Sem Value} : UnR X f (rW1 X f) := fun pins s σ H x u Q I rx h => h pins s σ u I rx
theorem callr_wn {id : Value} : CallR X id (rWN X fun us => call id us) := fun pins s σ H xs us Q I r h => h pins s σ us I r
theorem we_mono {e : Expr} {σ : L2.St} {H : Hp} {Q Q' : VK} (h : WE X e σ H Q) (k : ∀ v H1, KT X.K H1 → Q v H1 → Q' v H1) : WE X e σ H Q' := fun pins s I =>
  thn (h pins s I) fun u s' ⟨v, H', I', r, q⟩ => ⟨v, H', I', r, k v H' (kt_of I') q⟩
theorem wt_mono {e : Expr} {σ : L2.St} {H : Hp} {Q Q' : Bool → Hp → Prop} (h : WT X e σ H Q) (k : ∀ v H1, KT X.K H1 → Q v H1 → Q' v H1) : WT X e σ H Q' := fun pins s I =>
  thn (h pins s I) fun u s' ⟨H', I', q⟩ => ⟨H', I', k u H' (kt_of I') q⟩
theorem wes_mono : ∀ {es : List Expr} {σ : L2.St} {H : Hp} {Q Q' : List V → Hp → Prop}, KT X.K H → WEs X es σ H Q → (∀ vs H1, KT X.K H1 → Q vs H1 → Q' vs H1) → WEs X es σ H Q'
  | [], _, H, _, _, kt, h, k => k [] H kt h
  | e :: r, _, _, _, _, kt, h, k => we_mono h fun v H1 kt1 h1 => wes_mono (es := r) kt1 h1 fun vs H2 kt2 q => k _ H2 kt2 q
end

/-! ### what is behind an expression -/
section
variable (p : PC) (K : PySem.W.Frag)
def Post (pu : Bool) (F : AS) (σ : L2.St) (H0 : Hp) (own0 : Nat → AS) (fr1 : Fr) (m : M) (v : V) (H : Hp) : Prop :=
  ∃ (own : Nat → AS) (fp : AS), FR p K (or_ F fp) σ H fr1 own ∧ MR p K H (or_ (or_ F fp) (Own own)) v m fp ∧ Step H0 (Own own0) H (or_ (Own own) fp) ∧ (pu = true → own = own0 ∧ Grow H0 H)
/-- a field's value -/
def FldV (σ : L2.St) (H : Hp) (i n : Nat) (v : V) : Prop := ∃ (a C dx : Addr) (fs : List (Str × V)), σ[i]? = some (some (.ref a)) ∧ H a = some (.ins C dx fs) ∧ fs.lookup (p.fnm n) = some v
inductive OpsR (σ : L2.St) (H : Hp) (A : AS) : List Opd → List V → AS → Prop
  | nil {fp : AS} : (∀ a, ¬ fp a) → OpsR σ H A [] [] fp
  | v {m : M} {v : V} {os : List Opd} {vs : List V} {f1 f2 fp : AS} : MR p K H A v m f1 → OpsR σ H A os vs f2 → (∀ a, f1 a → ¬ f2 a) → (∀ a, fp a ↔ f1 a ∨ f2 a) → OpsR σ H A (.v m :: os) (v :: vs) fp
  | r {i : Nat} {v : V} {os : List Opd} {vs : List V} {fp : AS} : σ[i]? = some (some v) → OpsR σ H A os vs fp → OpsR σ H A (.r i :: os) (v :: vs) fp
  | f {i n : Nat} {v : V} {os : List Opd} {vs : List V} {fp : AS} : FldV p σ H i n v → OpsR σ H A os vs fp → OpsR σ H A (.f i n :: os) (v :: vs) fp
def PostO (pu : Bool) (F : AS) (σ : L2.St) (H0 : Hp) (own0 : Nat → AS) (fr1 : Fr) (os : List Opd) (vs : List V) (H : Hp) : Prop :=
  ∃ (own : Nat → AS) (fp : AS), FR p K (or_ F fp) σ H fr1 own ∧ OpsR p K σ H (or_ (or_ F fp) (Own own)) os vs fp ∧ Step H0 (Own own0) H (or_ (Own own) fp) ∧ (pu = true → own = own0 ∧ Grow H0 H)
def PostT (F : AS) (σ : L2.St) (H0 : Hp) (own0 : Nat → AS) (fr1 : Fr) (H : Hp) : Prop :=
  ∃ (own : Nat → AS), FR p K F σ H fr1 own ∧ Step H0 (Own own0) H (Own own)
/-- frozen values -/
def PostV (F : AS) (σ : L2.St) (H0 : Hp) (own0 : Nat → AS) (fr1 : Fr) (xs : List D) (vs : List V) (H : Hp) : Prop :=
  ∃ (own : Nat → AS), FR p K F σ H fr1 own ∧ RpAll K H (or_ F (Own own)) vs xs ∧ Step H0 (Own own0) H (Own own)
end
section
variable (p : PC) (C : Ctx) (X : Cx)
def SE (c : CE) (e : Expr) : Prop := ∀ (σ : L2.St) (H : Hp) (F : AS) (fr : Fr) (own : Nat → AS) (m : M) (fr1 : Fr) (Q : VK), KT X.K H → FR p X.K F σ H fr own → evE C c fr = .ok (m, fr1) →
  (∀ v H1, KT X.K H1 → Post p X.K (pureE c) F σ H own fr1 m v H1 → Q v H1) → WE X e σ H Q
def ST (c : CE) (e : Expr) : Prop := ∀ (σ : L2.St) (H : Hp) (F : AS) (fr : Fr) (own : Nat → AS) (t : Bool) (fr1 : Fr) (Q : Bool → Hp → Prop), KT X.K H → FR p X.K F σ H fr own → evT C c fr = .ok (t, fr1) →
  (∀ H1, KT X.K H1 → PostT p X.K F σ H own fr1 H1 → Q t H1) → WT X e σ H Q
def SW (c : CE) (e : Expr) : Prop := ∀ (σ : L2.St) (H : Hp) (F : AS) (fr : Fr) (own : Nat → AS) (t : Bool) (fr1 : Fr) (Q : Bool → Hp → Prop), KT X.K H → FR p X.K F σ H fr own → evT C c fr = .ok (t, fr1) →
  (∀ H1, KT X.K H1 → PostT p X.K F σ H own fr1 H1 → Q t H1) → WW X e σ H Q
def SO (c : CE) (es : List Expr) : Prop := ∀ (σ : L2.St) (H : Hp) (F : AS) (fr : Fr) (own : Nat → AS) (os : List Opd) (fr1 : Fr) (Q : List V → Hp → Prop), KT X.K H → FR p X.K F σ H fr own → evOs C c fr = .ok (os, fr1) →
  (∀ vs H1, KT X.K H1 → vs.length = es.length → PostO p X.K (pureE c) F σ H own fr1 os vs H1 → Q vs H1) → WEs X es σ H Q
def SV (c : CE) (es : List Expr) : Prop := ∀ (σ : L2.St) (H : Hp) (F : AS) (fr : Fr) (own : Nat → AS) (xs : List D) (fr1 : Fr) (Q : List V → Hp → Prop), KT X.K H → FR p X.K F σ H fr own → evVs C c fr = .ok (xs, fr1) →
  (∀ vs H1, KT X.K H1 → vs.length = es.length → PostV p X.K F σ H own fr1 xs vs H1 → Q vs H1) → WEs X es σ H Q
end
end Mn
/-! Mn, part E: operands, operations. -/
namespace Mn
open PySem L2 PySem.Spec
open PyProof.Rows hiding St

/-- the names of built-ins that are used -/
def BN : List Str := ["len", "all", "any", "sorted", "tuple", "list", "abs", "int", "bool", "str", "repr", "max", "min", "divmod", "isinstance", "range", "zip", "set", "reversed"]
structure XOk (p : PC) (N : List Str) (sc : Scope) (top : Bool) (X : Cx) : Prop where
  n : X.N = N
  nd : N.Nodup
  sc : X.env.scope = sc
  calm : X.calm = true
  units : X.A.units + 64 < cLine
  guards : X.A.guards = some []
  blt : ∀ x ∈ BN, X.mg x = none
  fn : top = true → ∀ x, X.fn x = true

def okE : Expr → Bool
  | .Starred _ _ => false
  | .Set _ _ _ => false
  | .SetComp _ _ _ _ => false
  | .Slice _ _ _ _ => false
  | _ => true
theorem star_ok {e : Expr} {es : List Expr} {env : Env} (h : okE e = true) : starEach (e :: es) env = (false, eval e env) :: starEach es env := by
  cases e <;> first | rfl | (cases h)
theorem marks_ok {e : Expr} {op : CmpOp} (h : okE e = true) : behindInMarks op e = false := by
  cases e <;> first | rfl | (cases h)
theorem plain_ok {e : Expr} (h : okE e = true) : PlainIx e := by
  intro o i
  cases e <;> first | rfl | (cases h)
theorem fold_ok {e : Expr} {env : Env} (h : okE e = true) : ∀ x, foldedSetIterable e env x = pure x := by
  intro x
  cases e <;> first | rfl | (cases h)
theorem pl_ok {pos : Pos} {env : Env} : ∀ {es : List Expr}, (es.all okE) = true → (backTo pos (starEach es env)).any (·.1) = false := by
  intro es h
  have : ∀ {es : List Expr}, (es.all okE) = true → ∀ x ∈ starEach es env, x.1 = false := by
    intro es
    induction es with
    | nil => intro _ x hx; cases hx
    | cons e r ih =>
      intro h x hx
      rw [List.all_cons, Bool.and_eq_true_iff] at h
      rw [star_ok h.1] at hx
      rcases List.mem_cons.mp hx with rfl | hr
      · rfl
      · exact ih h.2 x hr
  rw [List.any_eq_false]
  intro x hx
  have q := this h
  unfold backTo at hx
  simp only [List.mem_map] at hx
  obtain ⟨y, hy, rfl⟩ := hx
  simpa using q y hy
def visB (sc : Scope) (x : Str) : Bool := match sc.names.lookup x with
  | some .local => true
  | some .cell => true
  | some .free => true
  | _ => false
theorem vis_of {sc : Scope} {x : Str} (h : visB sc x = true) : Vis sc x := by
  unfold visB at h
  unfold Vis
  split at h
  · exact .inl (by assumption)
  · exact .inr (.inl (by assumption))
  · exact .inr (.inr (by assumption))
  · cases h
/-- the name of slot i is read -/
def nameB (N : List Str) (sc : Scope) (i : Nat) (x : Str) : Bool := decide (N[i]? = some x) && visB sc x && !(x == ("__debug__" : Str)) && !(x == ("__classdict__" : Str))
def glB (sc : Scope) (x : Str) : Bool := decide (sc.names.lookup x = some .globalImplicit)
section
variable {p : PC} {N : List Str} {sc : Scope} {top : Bool} {X : Cx} {C : Ctx}
theorem pe_name (h : XOk p N sc top X) {i : Nat} {x : Str} {pos : Pos} (b : nameB N sc i x = true) : PE X (.Name x pos) (tVar i) := by
  unfold nameB at b
  simp only [Bool.and_eq_true, decide_eq_true_eq, Bool.not_eq_true'] at b
  obtain ⟨⟨⟨b1, b2⟩, b3⟩, b4⟩ := b
  exact pe_var (by rw [h.n]; exact b1) (by rw [h.sc]; exact vis_of b2) b3 b4
theorem gl_of (h : XOk p N sc top X) {x : Str} (b : glB sc x = true) : Gl X x := by
  show X.env.scope.names.lookup x = _
  rw [h.sc]; exact of_decide_eq_true b

/-! operand lists -/
theorem OpsR.imp {K : PySem.W.Frag} {σ : L2.St} {H : Hp} {A A' : AS} : ∀ {os : List Opd} {vs : List V} {fp : AS}, OpsR p K σ H A os vs fp → (∀ a, A' a → A a) → OpsR p K σ H A' os vs fp
  | _, _, _, .nil h, _ => .nil h
  | _, _, _, .v mm rr d e, k => .v (mm.imp k) (OpsR.imp rr k) d e
  | _, _, _, .r h rr, k => .r h (OpsR.imp rr k)
  | _, _, _, .f h rr, k => .f h (OpsR.imp rr k)
theorem OpsR.length {K : PySem.W.Frag} {σ : L2.St} {H : Hp} {A : AS} : ∀ {os : List Opd} {vs : List V} {fp : AS}, OpsR p K σ H A os vs fp → vs.length = os.length
  | _, _, _, .nil h => rfl
  | _, _, _, .v mm rr d e => by rw [List.length_cons, List.length_cons, OpsR.length rr]
  | _, _, _, .r h rr => by rw [List.length_cons, List.length_cons, OpsR.length rr]
  | _, _, _, .f h rr => by rw [List.length_cons, List.length_cons, OpsR.length rr]
theorem so_nil : SO p C X .nil [] := by
  intro σ H F fr own os fr1 Q kt f e k
  have e' : (R.ok (([] : List Opd), fr)) = .ok (os, fr1) := e
  cases e'
  exact k [] H kt rfl ⟨own, noA, f.weak (fun a z => z.elim id False.elim), .nil fun _ z => z, (Step.refl _ _).sub (fun _ z => z) (fun a z => z.elim id False.elim), fun _ => ⟨rfl, fun _ _ e => e⟩⟩
theorem bind_ok {α β : Type} {r : R α} {g : α → R β} {b : β} (h : r.bind g = .ok b) : ∃ a, r = .ok a ∧ g a = .ok b := by
  cases r with
  | ok a => exact ⟨a, rfl, h⟩
  | exc e fr => cases h
  | stuck => cases h
theorem so_cons {a as : CE} {e : Expr} {es : List Expr} (h1 : a.isBor = none) (h2 : a.isFb = none) (sa : SE p C X a e) (ss : SO p C X as es) : SO p C X (.cons a as) (e :: es) := by
  intro σ H F fr own os fr1 Q kt f ev k
  have ev' : (match a.isBor with
    | some i => match getS fr i with
      | some _ => (evOs C as fr).bind fun (os, fr) => .ok (.r i :: os, fr)
      | none => .stuck
    | none => match a.isFb with
      | some (i, n) => if (getP fr (.f i n)).isSome && pureE as then (evOs C as fr).bind fun (os, fr) => .ok (.f i n :: os, fr) else .stuck
      | none => (evE C a fr).bind fun (m, fr) => (evOs C as fr).bind fun (os, fr) => .ok (.v m :: os, fr)) = R.ok (os, fr1) := ev
  rw [h1, h2] at ev'
  obtain ⟨⟨m, fr2⟩, q1, q2⟩ := bind_ok ev'
  obtain ⟨⟨os', fr3⟩, q3, q4⟩ := bind_ok q2
  cases q4
  refine sa σ H F fr own m fr2 _ kt f q1 fun v H1 kt1 ⟨own1, fp1, f1, m1, s1, p1⟩ => ?_
  refine ss σ H1 (or_ F fp1) fr2 own1 os' fr1 _ kt1 f1 q3 fun vs H2 kt2 hl ⟨own2, fp2, f2, o2, s2, p2⟩ => ?_
  refine k _ H2 kt2 (by rw [List.length_cons, List.length_cons, hl]) ⟨own2, or_ fp1 fp2, f2.weak fun a z => ?_, ?_, ?_, fun pu => ?_⟩
  · rcases z with z | z | z
    · exact .inl (.inl z)
    · exact .inl (.inr z)
    · exact .inr z
  · have tw : TrkA H2 (or_ (Own own2) fp2) := f2.own_trk.or fun a z => f2.trk a (.inr z)
    have m2 : MR p X.K H2 (or_ (or_ F (or_ fp1 fp2)) (Own own2)) v m fp1 := m1.step (kk_of kt2 tw) s2 (fun a z => .inr z) (fun a z => by
      rcases z with (z | z | z) | z
      · exact .inl (.inl (.inl z))
      · exact .inl (.inl (.inr z))
      · exact .inr (.inr z)
      · exact .inr (.inl z)) fun a z ⟨i, q⟩ => f1.forn i a q (.inr z)
    refine .v m2 (o2.imp fun a z => ?_) (fun a z y => ?_) fun _ => Iff.rfl
    · rcases z with (z | z | z) | z
      · exact .inl (.inl (.inl z))
      · exact .inl (.inl (.inr z))
      · exact .inl (.inr z)
      · exact .inr z
    · rcases s2.2 a (.inr y) with ⟨i, q⟩ | q
      · exact f1.forn i a q (.inr z)
      · obtain ⟨o, eo, _⟩ := f1.trk a (.inr z)
        rw [q] at eo; cases eo
  · refine s1.trans ((s2.frame fp1).sub (fun a z => z) fun a z => ?_)
    rcases z with z | z | z
    · exact .inl (.inl z)
    · exact .inr z
    · exact .inl (.inr z)
  · have pu' : (pureE a && pureE as) = true := pu
    rw [Bool.and_eq_true] at pu'
    obtain ⟨e1, g1⟩ := p1 pu'.1
    obtain ⟨e2, g2⟩ := p2 pu'.2
    exact ⟨e2.trans e1, fun a o q => g2 a o (g1 a o q)⟩
theorem so_bor (x : XOk p N sc top X) {i : Nat} {as : CE} {nm : Str} {pos : Pos} {es : List Expr} (b : nameB N sc i nm = true) (ss : SO p C X as es) : SO p C X (.cons (.bor i) as) (.Name nm pos :: es) := by
  intro σ H F fr own os fr1 Q kt f ev k
  have ev' : (match getS fr i with
      | some _ => (evOs C as fr).bind fun (os, fr) => .ok (.r i :: os, fr)
      | none => .stuck) = R.ok (os, fr1) := ev
  split at ev'
  · rename_i m hm
    obtain ⟨⟨os', fr3⟩, q3, q4⟩ := bind_ok ev'
    cases q4
    obtain ⟨v, hv, _⟩ := f.slot i m hm
    refine we_of (pe_name x b) ⟨v, hv, ?_⟩
    refine ss σ H F fr own os' fr1 _ kt f q3 fun vs H2 kt2 hl ⟨own2, fp2, f2, o2, s2, p2⟩ => ?_
    exact k _ H2 kt2 (by rw [List.length_cons, List.length_cons, hl]) ⟨own2, fp2, f2, .r hv o2, s2, fun pu => p2 (by have pu' : (true && pureE as) = true := pu; simpa using pu')⟩
  · cases ev'
/-- what the operands read as -/
inductive RnA (K : PySem.W.Frag) (H : Hp) (A : AS) : List V → List D → Prop
  | nil : RnA K H A [] []
  | cons {v : V} {d : D} {vs : List V} {ds : List D} : Rn K H A v d → RnA K H A vs ds → RnA K H A (v :: vs) (d :: ds)
theorem ops_rn {K : PySem.W.Frag} {σ : L2.St} {H : Hp} {F : AS} {fr : Fr} {own : Nat → AS} (f : FR p K F σ H fr own) : ∀ {os : List Opd} {vs : List V} {fp : AS} {ds : List D}, OpsR p K σ H (or_ F (Own own)) os vs fp → rds fr os = some ds → RnA K H (or_ F (Own own)) vs ds
  | _, _, _, _, .nil h, e => by cases e; exact .nil
  | _, _, _, _, .v (m := m) (os := os) mr r d e, q => by
    have q' : ((m.rd).bind fun x => (rds fr os).bind fun xs => some (x :: xs)) = some _ := q
    obtain ⟨x, q1, q2⟩ := Option.bind_eq_some_iff.mp q'
    obtain ⟨xs, q3, q4⟩ := Option.bind_eq_some_iff.mp q2
    cases q4
    exact .cons (mr.rn q1) (ops_rn f r q3)
  | _, _, _, _, .r (i := i) (v := v) (os := os) h r, q => by
    have q' : (((getS fr i).bind M.rd).bind fun x => (rds fr os).bind fun xs => some (x :: xs)) = some _ := q
    obtain ⟨x, q1, q2⟩ := Option.bind_eq_some_iff.mp q'
    obtain ⟨xs, q3, q4⟩ := Option.bind_eq_some_iff.mp q2
    obtain ⟨m, q5, q6⟩ := Option.bind_eq_some_iff.mp q1
    cases q4
    obtain ⟨w, h1, h2⟩ := f.slot i m q5
    rw [h] at h1
    cases h1
    exact .cons (h2.rn q6) (ops_rn f r q3)
  | _, _, _, _, .f (i := i) (n := n) (v := v) (os := os) h r, q => by
    have q' : (((getP fr (.f i n)).bind M.rd).bind fun x => (rds fr os).bind fun xs => some (x :: xs)) = some _ := q
    obtain ⟨x, q1, q2⟩ := Option.bind_eq_some_iff.mp q'
    obtain ⟨xs, q3, q4⟩ := Option.bind_eq_some_iff.mp q2
    obtain ⟨m, q5, q6⟩ := Option.bind_eq_some_iff.mp q1
    cases q4
    refine .cons ?_ (ops_rn f r q3)
    have q5' : (match getS fr i with
      | some (.ins _ fs) => fget n fs
      | _ => none) = some m := q5
    split at q5'
    · rename_i c fs hs
      obtain ⟨w, h1, h2⟩ := f.slot i _ hs
      obtain ⟨a, C, dx, fsV, e1, e2, e3⟩ := h
      rw [e1] at h1
      cases h1
      cases h2 with
      | b z => cases z
      | ins e fl _ _ =>
        rw [e2] at e
        cases e
        obtain ⟨w, l1, l2⟩ := fl.has n m q5'
        rw [e3] at l1
        cases l1
        exact l2.rn q6
    · cases q5'
/-- behind an operation -/
theorem post_op {pu : Bool} {F : AS} {σ : L2.St} {H0 H1 H2 : Hp} {own0 own : Nat → AS} {fr1 : Fr} {fp : AS} {m : M} {v : V} (kt2 : KT X.K H2) (f : FR p X.K (or_ F fp) σ H1 fr1 own) (s : Step H0 (Own own0) H1 (or_ (Own own) fp)) (pp : pu = true → own = own0 ∧ Grow H0 H1)
    (r : Res p X.K H1 (or_ (or_ F fp) (Own own)) m v H2) : Post p X.K pu F σ H0 own0 fr1 m v H2 := by
  obtain ⟨fp', mr, g, n⟩ := r kt2
  have tr := mr.trkA
  have f2 := f.grow kt2 g n tr
  refine ⟨own, fp', f2.weak (fun a z => z.elim (fun q => .inl (.inl q)) .inr), mr.imp (fun a z => ?_), ?_, fun q => ?_⟩
  · rcases z with (z | z) | z
    · exact .inl (.inl (.inl z))
    · exact .inr z
    · exact .inl (.inr z)
  · have s2 : Step H1 (or_ (Own own) fp) H2 (or_ fp' (or_ (Own own) fp)) := ((g.step n).frame (or_ (Own own) fp)).sub (fun a z => z.elim False.elim id) fun a z => z
    refine s.trans (s2.sub (fun a z => z) fun a z => ?_)
    rcases z with z | z
    · exact .inr (.inl z)
    · exact .inl z
  · obtain ⟨e, g0⟩ := pp q
    exact ⟨e, fun a o z => g a o (g0 a o z)⟩
theorem ev_op {o : Op} {es : CE} {fr : Fr} {m : M} {fr1 : Fr} (h : evE C (.op o es) fr = .ok (m, fr1)) : ∃ os ds, evOs C es fr = .ok (os, fr1) ∧ rds fr1 os = some ds ∧ opsem o ds = some m := by
  have h' : ((evOs C es fr).bind fun (os, fr) => match rds fr os with
    | some ds => match opsem o ds with
      | some m => R.ok (m, fr)
      | none => .stuck
    | none => .stuck) = .ok (m, fr1) := h
  obtain ⟨⟨os, fr2⟩, q1, q2⟩ := bind_ok h'
  simp only at q2
  split at q2
  · rename_i ds hd
    split at q2
    · rename_i m' hm
      cases q2
      exact ⟨os, ds, q1, hd, hm⟩
    · cases q2
  · cases q2
theorem ep_kt' {pins : List (Addr × Obj)} {σ : L2.St} {s : Shared} {P Q : VK} {t : Sem Value} (h : wpAny (model X.prog X.w) X.A t (EP X pins σ P) X.xe s) (k : ∀ v H', KT X.K H' → P v H' → Q v H') : wpAny (model X.prog X.w) X.A t (EP X pins σ Q) X.xe s :=
  thn h fun _ _ ⟨v, H', I, r, q⟩ => ⟨v, H', I, r, k v H' (kt_of I) q⟩
/-- one operand -/
theorem se_1 {o : Op} {cs : CE} {ea e : Expr} {g : Value → Sem Value} (lf : Lf1 p X g (opsem o)) (ss : SO p C X cs [ea]) (pe : PE X e fun σ H Q => WE X ea σ H fun x H1 => rW1 X g x H1 Q) : SE p C X (.op o cs) e := by
  intro σ H F fr own m fr1 Q kt f ev k
  obtain ⟨os, ds, e1, e2, e3⟩ := ev_op ev
  refine we_of pe ?_
  refine ss σ H F fr own os fr1 (fun vs H1 => rW1 X g (vs.getD 0 .non) H1 Q) kt f e1 fun vs H1 kt1 hl ⟨own1, fp, f1, o1, s1, p1⟩ => ?_
  have rn := ops_rn f1 o1 e2
  cases rn with
  | nil => cases hl
  | cons r1 r2 =>
    cases r2 with
    | nil =>
      intro pins s σ' u I r
      exact ep_kt' (lf pins s σ' H1 _ _ u _ m I f1.all_trk r r1 e3) fun v H2 kt2 res => k v H2 kt2 (post_op kt2 f1 s1 p1 res)
    | cons r2 r3 => simp at hl
/-- two operands -/
theorem se_2 {o : Op} {cs : CE} {ea eb e : Expr} {g : Value → Value → Sem Value} (lf : Lf2 p X g (opsem o)) (ss : SO p C X cs [ea, eb]) (pe : PE X e fun σ H Q => WE X ea σ H fun x H1 => WE X eb σ H1 fun y H2 => rW2 X g x y H2 Q) : SE p C X (.op o cs) e := by
  intro σ H F fr own m fr1 Q kt f ev k
  obtain ⟨os, ds, e1, e2, e3⟩ := ev_op ev
  refine we_of pe ?_
  refine ss σ H F fr own os fr1 (fun vs H1 => rW2 X g (vs.getD 0 .non) (vs.getD 1 .non) H1 Q) kt f e1 fun vs H1 kt1 hl ⟨own1, fp, f1, o1, s1, p1⟩ => ?_
  have rn := ops_rn f1 o1 e2
  cases rn with
  | nil => cases hl
  | cons r1 r2 =>
    cases r2 with
    | nil => cases hl
    | cons r2 r3 =>
      cases r3 with
      | nil =>
        intro pins s σ' u w I ra rb
        exact ep_kt' (lf pins s σ' H1 _ _ _ u w _ _ m I f1.all_trk ra rb r1 r2 e3) fun v H2 kt2 res => k v H2 kt2 (post_op kt2 f1 s1 p1 res)
      | cons r3 r4 => simp at hl
end
end Mn
/-! Mn, part F: the nodes. -/
namespace Mn
open PySem L2 PySem.Spec
open PyProof.Rows hiding St

section
variable {p : PC} {N : List Str} {sc : Scope} {top : Bool} {X : Cx} {C : Ctx}
theorem pe_imp {e : Expr} {t t' : TE} (h : PE X e t) (k : ∀ σ H Q, t' σ H Q → t σ H Q) : PE X e t' := ⟨fun pins s σ H Q I q => h.run pins s σ H Q I (k σ H Q q)⟩
/-! ### operations by their shape -/
theorem se_bin {o : Op} {op : Operator} {cs : CE} {ea eb : Expr} {pos : Pos} (lf : Lf2 p X (binaryOp op) (opsem o)) (ss : SO p C X cs [ea, eb]) : SE p C X (.op o cs) (.BinOp ea op eb pos) :=
  se_2 lf ss (pe_op opr_w2 pe_we pe_we)
theorem se_cmp {o : Op} {op : CmpOp} {cs : CE} {ea eb : Expr} {pos : Pos} (lf : Lf2 p X (compareOp op) (opsem o)) (ok : okE eb = true) (ss : SO p C X cs [ea, eb]) : SE p C X (.op o cs) (.Compare ea [op] [eb] pos) :=
  se_2 lf ss (pe_cmpR opr_w2 pe_we pe_we (marks_ok ok))
theorem se_un {o : Op} {op : UnaryOp} {cs : CE} {ea : Expr} {pos : Pos} (lf : Lf1 p X (unaryOp op) (opsem o)) (ss : SO p C X cs [ea]) : SE p C X (.op o cs) (.UnaryOp op ea pos) :=
  se_1 lf ss (pe_un unr_w1 pe_we)
def TyId : Value → Bool
  | .type _ => true
  | .builtin _ => true
  | _ => false
theorem wn1 {id : Value} {x : V} {H : Hp} {Q : VK} (h : rW1 X (fun u => call id [u]) x H Q) : rWN X (fun us => call id us) [x] H Q := fun pins s σ us I r => by
  obtain ⟨w, rfl, ru⟩ := vals1 r
  exact h pins s σ w I ru
theorem wn2 {id : Value} {x y : V} {H : Hp} {Q : VK} (h : rW2 X (fun u w => call id [u, w]) x y H Q) : rWN X (fun us => call id us) [x, y] H Q := fun pins s σ us I r => by
  obtain ⟨u, w, rfl, ru, rw'⟩ := vals2 r
  exact h pins s σ u w I ru rw'
/-- the built-in functions and types that are called by name -/
structure BiOk (x : Str) (id : Value) : Prop where
  mem : x ∈ BN
  boot : bootBuiltins x = some id
  ty : TyId id = true
  nn : x ≠ "__name__"
  nd : (x == ("__debug__" : Str)) = false
theorem pe_bi {x : Str} {id : Value} {pp pos : Pos} {e : Expr} {es : List Expr} {t : TA} (h : XOk p N sc top X) (b : BiOk x id) (gl : glB sc x = true) (ok : (e :: es).all okE = true) (ha : PA X (e :: es) t) : PE X (.Call (.Name x pp) (e :: es) [] pos) (tCB (rWN X fun us => call id us) t) := by
  rw [List.all_cons, Bool.and_eq_true] at ok
  have g := gl_of h gl
  have ng := h.blt x b.mem
  have ty := b.ty
  have bo := b.boot
  cases id <;> first | (cases ty; done) | exact pe_callB callr_wn g ng bo ha b.nn b.nd (star_ok ok.1) (pl_ok ok.2) | exact pe_callTy callr_wn g ng bo ha b.nn b.nd (star_ok ok.1) (pl_ok ok.2)
theorem pa_wes : ∀ {es : List Expr}, es.all okE = true → PA X es (WEs X es)
  | [], _ => ⟨fun pos pins s σ H Q I h => pa_nil.run pos pins s σ H Q I h⟩
  | e :: r, h => by
    rw [List.all_cons, Bool.and_eq_true_iff] at h
    exact ⟨fun pos pins s σ H Q I q => (pa_cons pe_we (pa_wes h.2) (star_ok h.1)).run pos pins s σ H Q I q⟩
theorem se_fn1 {o : Op} {x : Str} {id : Value} {cs : CE} {ea : Expr} {pp pos : Pos} (h : XOk p N sc top X) (b : BiOk x id) (gl : glB sc x = true) (ok : okE ea = true) (lf : Lf1 p X (fun u => call id [u]) (opsem o)) (ss : SO p C X cs [ea]) : SE p C X (.op o cs) (.Call (.Name x pp) [ea] [] pos) :=
  se_1 lf ss (pe_imp (pe_bi h b gl (by simp [ok]) (pa_wes (by simp [ok]))) fun σ H Q q => we_mono q fun v H1 _ q => wn1 q)
theorem se_fn2 {o : Op} {x : Str} {id : Value} {cs : CE} {ea eb : Expr} {pp pos : Pos} (h : XOk p N sc top X) (b : BiOk x id) (gl : glB sc x = true) (ok : okE ea = true) (ok2 : okE eb = true) (lf : Lf2 p X (fun u w => call id [u, w]) (opsem o)) (ss : SO p C X cs [ea, eb]) : SE p C X (.op o cs) (.Call (.Name x pp) [ea, eb] [] pos) :=
  se_2 lf ss (pe_imp (pe_bi h b gl (by simp [ok, ok2]) (pa_wes (by simp [ok, ok2]))) fun σ H Q q => we_mono q fun v H1 _ q => we_mono q fun v H1 _ q => wn2 q)
theorem bi_isi : BiOk "isinstance" (.builtin "isinstance") := ⟨by decide, by decide +kernel, rfl, by decide, by decide⟩
theorem se_isi {t : Ty} {x : Str} {cs : CE} {ea : Expr} {pp p2 pos : Pos} (h : XOk p N sc top X) (gl : glB sc "isinstance" = true) (gt : glB sc x = true) (hx : x ∈ BN) (hv : bootBuiltins x = some (.type (tyName t))) (nn : x ≠ "__name__") (nd : (x == ("__debug__" : Str)) = false) (ok : okE ea = true) (ss : SO p C X cs [ea]) :
    SE p C X (.op (.isi [t]) cs) (.Call (.Name "isinstance" pp) [ea, .Name x p2] [] pos) := by
  have pt : PE X (.Name x p2) (tC (.ty (tyName t))) := pe_bltn (gl_of h gt) (h.blt x hx) hv rfl nn nd
  have pa : PA X [ea, .Name x p2] (tCons (WE X ea) (tCons (tC (.ty (tyName t))) tNil)) := pa_cons pe_we (pa_cons pt pa_nil (star_ok rfl)) (star_ok ok)
  refine se_1 (lf_isi t) ss (pe_imp (pe_bi h bi_isi gl (by rw [List.all_cons, ok]; rfl) pa) fun σ H Q q => we_mono q fun v H1 _ q => ?_)
  show rWN X _ [v, .ty (tyName t)] H1 Q
  intro pins s σ us I r
  obtain ⟨u, w, rfl, ru, rw'⟩ := vals2 r
  obtain rfl : w = Value.type (tyName t) := rw'
  exact q pins s σ u I ru
/-- a[b] -/
theorem se_idx {cs : CE} {ea eb : Expr} {pos : Pos} (h : XOk p N sc top X) (ok : okE eb = true) (ss : SO p C X cs [ea, eb]) : SE p C X (.op .idx cs) (.Subscript ea eb pos) := by
  intro σ H F fr own m fr1 Q kt f ev k
  obtain ⟨os, ds, e1, e2, e3⟩ := ev_op ev
  let r : R2 := fun x y H Q => ∀ (value slice : Expr) (pins : List (Addr × Obj)) (s : Shared) (σ : L2.St) (u w : Value), Inv X pins σ H s → RelV x u → RelV y w → subscripted slice false u w = operate [u, w] (getItem u w) → wpAny (model X.prog X.w) X.A (subscriptTail value slice u w) (EP X pins σ Q) X.xe s
  have ir : IxR X r := fun value slice pins s σ H x y v u Q I rx ry q hs => q value slice pins s σ v u I rx ry hs
  refine we_of (pe_ix ir pe_we pe_we (plain_ok ok)) ?_
  refine ss σ H F fr own os fr1 (fun vs H1 => r (vs.getD 0 .non) (vs.getD 1 .non) H1 Q) kt f e1 fun vs H1 kt1 hl ⟨own1, fp, f1, o1, s1, p1⟩ => ?_
  have rn := ops_rn f1 o1 e2
  cases rn with
  | nil => cases hl
  | cons r1 r2 =>
    cases r2 with
    | nil => cases hl
    | cons r2 r3 =>
      cases r3 with
      | nil =>
        intro value slice pins s σ' u w I ra rb hs
        exact ep_kt' (lf_idx h.units value slice pins s σ' H1 _ _ _ u w _ _ m I f1.all_trk ra rb r1 r2 e3 hs) fun v H2 kt2 res => k v H2 kt2 (post_op kt2 f1 s1 p1 res)
      | cons r3 r4 => simp at hl
def rSl (K : PySem.W.Frag) : V → Option Int → Option Int → Hp → VK → Prop := fun x lo hi H Q => rSlL K x lo hi H Q ∨ rSlA K x lo hi H Q
theorem slr : SlR X (rSl X.K) := SlR.or sl_list sl_tupA
/-- what a slice of the value at hand is -/
theorem rsl_of {lo hi : Option Int} {x : V} {H : Hp} {A : AS} {d : D} {m : M} {Q : VK} (tr : TrkA H A) (r : Rn X.K H A x d) (e : (∃ xs, d = .tuple xs ∧ m = .d (.tuple (cut xs lo hi))) ∨ ∃ xs, d = .list xs ∧ m = .lst (cut xs lo hi)) (k : ∀ v H', Res p X.K H A m v H' → Q v H') : rSl X.K x lo hi H Q := by
  rcases e with ⟨xs, rfl, rfl⟩ | ⟨xs, rfl, rfl⟩
  · exact .inr ((lf_slice (p := p) (X := X) lo hi).1 x H A xs tr r Q k)
  · exact .inl ((lf_slice (p := p) (X := X) lo hi).2 x H A xs tr r Q k)
/-- the slice made, then asked for -/
theorem slice_end {e : Expr} {lo hi : Option Expr} {p2 : Pos} {pins : List (Addr × Obj)} {s3 : Shared} {σ : L2.St} {H3 : Hp} {Q : VK} {x : V} {v vl vu : Value} {l u : Option Int} (I3 : Inv X pins σ H3 s3) (r1 : RelV x v) (pl : IsPart vl l) (pu : IsPart vu u) (q3 : rSl X.K x l u H3 Q) :
    wpAny (model X.prog X.w) X.A (subscriptTail e (.Slice lo hi none p2) v (.ref s3.heap.objs.size)) (EP X pins σ Q) X.xe { s3 with heap := s3.heap.push { cls := .type "slice", data := .fields #[vl, vu, .none] } } := by
  have J4 : Inv X pins σ H3 { s3 with heap := s3.heap.push { cls := .type "slice", data := .fields #[vl, vu, .none] } } := I3.kept (t' := s3.toks) fun b ob q => Heap.get?_push_of_some _ q
  obtain ⟨T, id, hTy, hIs, hGet⟩ := slr pins { s3 with heap := s3.heap.push { cls := .type "slice", data := .fields #[vl, vu, .none] } } σ H3 x v vl vu l u s3.heap.objs.size Q J4 r1 (Heap.IsSliceOf.new ..) pl pu q3
  exact tail_any (ops := [.ref s3.heap.objs.size, v]) hIs hTy hGet (by with_unfolding_all rfl)
theorem po_part {e : Expr} : (∀ env, evalPart (some e) env = eval e env) := fun _ => rfl
theorem pe_sl2 {ea eb ec : Expr} {p2 pos : Pos} : PE X (.Subscript ea (.Slice (some eb) (some ec) none p2) pos) (fun σ H Q => WE X ea σ H fun x H1 => WE X eb σ H1 fun y H2 => WE X ec σ H2 fun z H3 => ∃ i j : Int, y = .int i ∧ z = .int j ∧ rSl X.K x (some i) (some j) H3 Q) := by
  refine ⟨?_⟩; intro pins s σ H Q I h
  refine Subscript_ (thn (h pins s I) fun v s1 ⟨x, H1, I1, r1, q1⟩ => ?_)
  refine wpAny_Slice (?_ : wpAny _ _ (evalPart (some eb) X.env) _ _ _)
  rw [evalPart_some]
  refine thn (q1 pins s1 I1) fun vl s2 ⟨y, H2, I2, r2, q2⟩ => ?_
  rw [evalPart_some]
  refine thn (q2 pins s2 I2) fun vu s3 ⟨z, H3, I3, r3, i, j, ey, ez, q3⟩ => ?_
  subst ey; subst ez
  obtain ⟨ti, rfl⟩ := r2
  obtain ⟨tj, rfl⟩ := r3
  rw [evalPart_none]
  refine wpAny_pure ?_
  exact slice_end I3 r1 (.int i ti) (.int j tj) q3
theorem pe_slL {ea eb : Expr} {p2 pos : Pos} : PE X (.Subscript ea (.Slice (some eb) none none p2) pos) (fun σ H Q => WE X ea σ H fun x H1 => WE X eb σ H1 fun y H2 => ∃ i : Int, y = .int i ∧ rSl X.K x (some i) none H2 Q) := by
  refine ⟨?_⟩; intro pins s σ H Q I h
  refine Subscript_ (thn (h pins s I) fun v s1 ⟨x, H1, I1, r1, q1⟩ => ?_)
  refine wpAny_Slice (?_ : wpAny _ _ (evalPart (some eb) X.env) _ _ _)
  rw [evalPart_some]
  refine thn (q1 pins s1 I1) fun vl s2 ⟨y, H2, I2, r2, i, ey, q3⟩ => ?_
  subst ey
  obtain ⟨ti, rfl⟩ := r2
  rw [evalPart_none]
  refine wpAny_pure ?_
  refine wpAny_pure ?_
  exact slice_end I2 r1 (.int i ti) .none q3
theorem pe_slR {ea eb : Expr} {p2 pos : Pos} : PE X (.Subscript ea (.Slice none (some eb) none p2) pos) (fun σ H Q => WE X ea σ H fun x H1 => WE X eb σ H1 fun y H2 => ∃ i : Int, y = .int i ∧ rSl X.K x none (some i) H2 Q) := by
  refine ⟨?_⟩; intro pins s σ H Q I h
  refine Subscript_ (thn (h pins s I) fun v s1 ⟨x, H1, I1, r1, q1⟩ => ?_)
  refine wpAny_Slice (?_ : wpAny _ _ (evalPart none X.env) _ _ _)
  rw [evalPart_none]
  refine wpAny_pure ?_
  rw [evalPart_some]
  refine thn (q1 pins s1 I1) fun vl s2 ⟨y, H2, I2, r2, i, ey, q3⟩ => ?_
  subst ey
  obtain ⟨ti, rfl⟩ := r2
  refine wpAny_pure ?_
  exact slice_end I2 r1 .none (.int i ti) q3
theorem we_kt {e : Expr} {σ : L2.St} {H : Hp} {Q : VK} (h : WE X e σ H fun v H1 => KT X.K H1 → Q v H1) : WE X e σ H Q := we_mono h fun _ _ kt q => q kt
/-- a[i:j] -/
theorem se_slice2 {cs : CE} {ea eb ec : Expr} {p2 pos : Pos} (ss : SO p C X cs [ea, eb, ec]) : SE p C X (.op (.slice true true) cs) (.Subscript ea (.Slice (some eb) (some ec) none p2) pos) := by
  intro σ H F fr own m fr1 Q kt f ev k
  obtain ⟨os, ds, e1, e2, e3⟩ := ev_op ev
  refine we_kt (we_of pe_sl2 ?_)
  refine ss σ H F fr own os fr1 (fun vs H1 => ∃ i j : Int, vs.getD 1 .non = .int i ∧ vs.getD 2 .non = .int j ∧ rSl X.K (vs.getD 0 .non) (some i) (some j) H1 (fun v H1 => KT X.K H1 → Q v H1)) kt f e1 fun vs H1 kt1 hl ⟨own1, fp, f1, o1, s1, p1⟩ => ?_
  have rn := ops_rn f1 o1 e2
  cases rn with
  | nil => cases hl
  | cons r1 r2 => cases r2 with
    | nil => cases hl
    | cons r2 r3 => cases r3 with
      | nil => cases hl
      | cons r3 r4 =>
        cases r4 with
        | cons r4 r5 => simp at hl
        | nil =>
          have e3' : sliceS true true _ = some m := e3
          unfold sliceS at e3'
          split at e3'
          · rename_i xs i j q
            cases q
            cases e3'
            exact ⟨i, j, r2.int, r3.int, rsl_of (p := p) f1.all_trk r1 (.inl ⟨xs, rfl, rfl⟩) fun v H2 res kt2 => k v H2 kt2 (post_op kt2 f1 s1 p1 res)⟩
          · rename_i q; cases q
          · rename_i xs i j q
            cases q
            cases e3'
            exact ⟨i, j, r2.int, r3.int, rsl_of (p := p) f1.all_trk r1 (.inr ⟨xs, rfl, rfl⟩) fun v H2 res kt2 => k v H2 kt2 (post_op kt2 f1 s1 p1 res)⟩
          · rename_i q; cases q
          · cases e3'
theorem se_sliceL {cs : CE} {ea eb : Expr} {p2 pos : Pos} (ss : SO p C X cs [ea, eb]) : SE p C X (.op (.slice true false) cs) (.Subscript ea (.Slice (some eb) none none p2) pos) := by
  intro σ H F fr own m fr1 Q kt f ev k
  obtain ⟨os, ds, e1, e2, e3⟩ := ev_op ev
  refine we_kt (we_of pe_slL ?_)
  refine ss σ H F fr own os fr1 (fun vs H1 => ∃ i : Int, vs.getD 1 .non = .int i ∧ rSl X.K (vs.getD 0 .non) (some i) none H1 (fun v H1 => KT X.K H1 → Q v H1)) kt f e1 fun vs H1 kt1 hl ⟨own1, fp, f1, o1, s1, p1⟩ => ?_
  have rn := ops_rn f1 o1 e2
  cases rn with
  | nil => cases hl
  | cons r1 r2 => cases r2 with
    | nil => cases hl
    | cons r2 r3 =>
      cases r3 with
      | cons r4 r5 => simp at hl
      | nil =>
        have e3' : sliceS true false _ = some m := e3
        unfold sliceS at e3'
        split at e3'
        · rename_i q; cases q
        · rename_i xs i q
          cases q
          cases e3'
          exact ⟨i, r2.int, rsl_of (p := p) f1.all_trk r1 (.inl ⟨xs, rfl, rfl⟩) fun v H2 res kt2 => k v H2 kt2 (post_op kt2 f1 s1 p1 res)⟩
        · rename_i q; cases q
        · rename_i xs i q
          cases q
          cases e3'
          exact ⟨i, r2.int, rsl_of (p := p) f1.all_trk r1 (.inr ⟨xs, rfl, rfl⟩) fun v H2 res kt2 => k v H2 kt2 (post_op kt2 f1 s1 p1 res)⟩
        · cases e3'
theorem se_sliceR {cs : CE} {ea eb : Expr} {p2 pos : Pos} (ss : SO p C X cs [ea, eb]) : SE p C X (.op (.slice false true) cs) (.Subscript ea (.Slice none (some eb) none p2) pos) := by
  intro σ H F fr own m fr1 Q kt f ev k
  obtain ⟨os, ds, e1, e2, e3⟩ := ev_op ev
  refine we_kt (we_of pe_slR ?_)
  refine ss σ H F fr own os fr1 (fun vs H1 => ∃ i : Int, vs.getD 1 .non = .int i ∧ rSl X.K (vs.getD 0 .non) none (some i) H1 (fun v H1 => KT X.K H1 → Q v H1)) kt f e1 fun vs H1 kt1 hl ⟨own1, fp, f1, o1, s1, p1⟩ => ?_
  have rn := ops_rn f1 o1 e2
  cases rn with
  | nil => cases hl
  | cons r1 r2 => cases r2 with
    | nil => cases hl
    | cons r2 r3 =>
      cases r3 with
      | cons r4 r5 => simp at hl
      | nil =>
        have e3' : sliceS false true _ = some m := e3
        unfold sliceS at e3'
        split at e3'
        · rename_i q; cases q
        · rename_i xs i q
          cases q
          cases e3'
          exact ⟨i, r2.int, rsl_of (p := p) f1.all_trk r1 (.inl ⟨xs, rfl, rfl⟩) fun v H2 res kt2 => k v H2 kt2 (post_op kt2 f1 s1 p1 res)⟩
        · rename_i q; cases q
        · rename_i xs i q
          cases q
          cases e3'
          exact ⟨i, r2.int, rsl_of (p := p) f1.all_trk r1 (.inr ⟨xs, rfl, rfl⟩) fun v H2 res kt2 => k v H2 kt2 (post_op kt2 f1 s1 p1 res)⟩
        · cases e3'

/-! ### names, constants -/
theorem post_same {pu : Bool} {F : AS} {σ : L2.St} {H : Hp} {fr : Fr} {own : Nat → AS} {x : D} {v : V} (f : FR p X.K F σ H fr own) (r : Rp X.K H (or_ F (Own own)) v x) : Post p X.K pu F σ H own fr (.d x) v H :=
  ⟨own, noA, f.weak (fun a z => z.elim id False.elim), .b (.d (r.imp fun a z => z.elim (fun q => .inl (q.elim id False.elim)) .inr) fun _ z => z), (Step.refl _ _).sub (fun _ z => z) (fun a z => z.elim id False.elim), fun _ => ⟨rfl, fun _ _ e => e⟩⟩
theorem slot_dat {F : AS} {σ : L2.St} {H : Hp} {fr : Fr} {own : Nat → AS} {i : Nat} {x : D} (f : FR p X.K F σ H fr own) (h : getS fr i = some (.d x)) : ∃ v, σ[i]? = some (some v) ∧ Rp X.K H (or_ F (Own own)) v x := by
  obtain ⟨v, h1, h2⟩ := f.slot i _ h
  exact ⟨v, h1, h2.dat.1⟩
theorem se_bor (x : XOk p N sc top X) {i : Nat} {nm : Str} {pos : Pos} (b : nameB N sc i nm = true) : SE p C X (.bor i) (.Name nm pos) := by
  intro σ H F fr own m fr1 Q kt f ev k
  have ev' : (match getS fr i with
    | some (.d x) => R.ok (M.d x, fr)
    | _ => .stuck) = .ok (m, fr1) := ev
  split at ev'
  · rename_i d hd
    cases ev'
    obtain ⟨v, h1, h2⟩ := slot_dat f hd
    exact we_of (pe_name x b) ⟨v, h1, k v H kt (post_same f h2)⟩
  · cases ev'
/-- a name's list is frozen as it stands -/
theorem se_var (x : XOk p N sc top X) {i : Nat} {nm : Str} {pos : Pos} (b : nameB N sc i nm = true) : SE p C X (.var i) (.Name nm pos) := by
  intro σ H F fr own m fr1 Q kt f ev k
  have ev' : (match getS fr i with
    | some (.d x) => R.ok (M.d x, fr)
    | some (.lst xs) => .ok (.d (.list xs), fr.set i (some (.d (.list xs))))
    | _ => .stuck) = .ok (m, fr1) := ev
  split at ev'
  · rename_i d hd
    cases ev'
    obtain ⟨v, h1, h2⟩ := slot_dat f hd
    exact we_of (pe_name x b) ⟨v, h1, k v H kt (post_same f h2)⟩
  · rename_i xs hd
    cases ev'
    obtain ⟨v, h1, h2⟩ := f.slot i _ hd
    obtain ⟨a, vs, rfl, ha, q, qf⟩ := h2.lst
    intro pins s I
    refine thn ((pe_name x b).run pins s σ H (fun v H1 => v = .ref a ∧ H1 = H) I ⟨_, h1, rfl, rfl⟩) fun u s1 ⟨v1, H1, I1, r1, e1, e2⟩ => ?_
    subst e1; subst e2
    obtain ⟨o, _, I2⟩ := inv_frz I1 ha
    refine ⟨.ref a, _, I2, r1, k _ _ (kt_of I2) ?_⟩
    have kt2 := kt_of I2
    have st : Step H1 (fun b => b = a) (upd H1 a (.frz o (.lst vs))) noA := ⟨fun b u e n => by rw [upd_ne n]; exact e, fun _ z => z.elim⟩
    have fo := f.out (i := i)
    have tr : TrkA (upd H1 a (.frz o (.lst vs))) F := fun b z => by
      obtain ⟨u, e, n⟩ := f.trk b z
      have hb : b ≠ a := fun w => f.forn i b ((qf b).mpr w) z
      exact ⟨u, by rw [upd_ne hb]; exact e, n⟩
    have f2 : FR p X.K F σ (upd H1 a (.frz o (.lst vs))) (fr.set i none) (pt own i noA) := fo.stepW kt2 st (fun b z => .inr ((qf b).mpr z)) (fun b z => .inl (.inl z)) tr (fun b z => z.elim)
    have hi : i < σ.length := (List.getElem?_eq_some_iff.mp h1).1
    have na : ∀ A' : AS, (∀ b, A' b → or_ F (Own (pt own i noA)) b) → Rp X.K (upd H1 a (.frz o (.lst vs))) A' (.ref a) (.list xs) := fun A' hA => by
      refine .lst (.inl ⟨o, upd_same⟩) (fun z => ?_) ?_
      · rcases hA a z with z | ⟨j, z⟩
        · exact f.forn i a ((qf a).mpr rfl) z
        · by_cases e : j = i
          · subst e; rw [pt_same] at z; exact z
          · rw [pt_ne e] at z
            exact e (f.disj j i a z ((qf a).mpr rfl))
      · refine q.step (W := fun b => b = a) (W' := noA) (fun _ _ _ z => z) st (fun b z => .inr ⟨i, (qf b).mpr z⟩) fun b z => .inl ?_
        rcases hA b z with z | ⟨j, z⟩
        · exact .inl z
        · by_cases e : j = i
          · subst e; rw [pt_same] at z; exact z.elim
          · rw [pt_ne e] at z; exact .inr ⟨j, z⟩
    have f3 : FR p X.K F (σ.set i (some (.ref a))) _ ((fr.set i none).set i (some (.d (.list xs)))) (pt (pt own i noA) i noA) :=
      FR.asg (fp := noA) (v := .ref a) (m := .d (.list xs)) (f2.weak fun b z => z.elim id False.elim) (.b (.d (na _ fun b z => z.elim (fun q => .inl (q.elim id False.elim)) .inr) fun _ z => z)) (fun _ z => z.elim) hi
    have eσ : σ.set i (some (V.ref a)) = σ := by
      obtain ⟨h, e⟩ := List.getElem?_eq_some_iff.mp h1
      rw [← e, List.set_getElem_self]
    rw [List.set_set, eσ] at f3
    refine ⟨_, noA, f3.weak (fun a z => z.elim id False.elim), .b (.d (na _ fun b z => ?_) fun _ z => z), ⟨fun b u e n => ?_, fun b z => .inl ?_⟩, fun z => by cases z⟩
    · rcases z with (z | z) | ⟨j, z⟩
      · exact .inl z
      · exact z.elim
      · by_cases e : j = i
        · subst e; rw [pt_same] at z; exact z.elim
        · rw [pt_ne e] at z; exact .inr ⟨j, z⟩
    · exact st.1 b u e fun w => n ⟨i, (qf b).mpr w⟩
    · rcases z with ⟨j, z⟩ | z
      · by_cases e : j = i
        · subst e; rw [pt_same] at z; exact z.elim
        · rw [pt_ne e, pt_ne e] at z; exact ⟨j, z⟩
      · exact z.elim
  · cases ev'
theorem se_mv (x : XOk p N sc top X) {i : Nat} {nm : Str} {pos : Pos} (b : nameB N sc i nm = true) : SE p C X (.mv i) (.Name nm pos) := by
  intro σ H F fr own m fr1 Q kt f ev k
  have ev' : (match getS fr i with
    | some (.d x) => R.ok (M.d x, fr)
    | some m => if C.pin i then .stuck else .ok (m, fr.set i none)
    | none => .stuck) = .ok (m, fr1) := ev
  split at ev'
  · rename_i d hd
    cases ev'
    obtain ⟨v, h1, h2⟩ := slot_dat f hd
    exact we_of (pe_name x b) ⟨v, h1, k v H kt (post_same f h2)⟩
  · rename_i m' _ hd
    split at ev'
    · cases ev'
    · cases ev'
      obtain ⟨v, h1, h2⟩ := f.slot i _ hd
      refine we_of (pe_name x b) ⟨v, h1, k v H kt ⟨_, own i, f.out, h2.imp fun a z => ?_, (Step.refl _ _).sub (fun _ z => z) fun a z => ?_, fun z => by cases z⟩⟩
      · rcases z with (z | z) | ⟨j, z⟩
        · exact .inl z
        · exact .inr ⟨i, z⟩
        · by_cases e : j = i
          · subst e; rw [pt_same] at z; exact z.elim
          · rw [pt_ne e] at z; exact .inr ⟨j, z⟩
      · rcases z with ⟨j, z⟩ | z
        · by_cases e : j = i
          · subst e; rw [pt_same] at z; exact z.elim
          · rw [pt_ne e] at z; exact ⟨j, z⟩
        · exact ⟨i, z⟩
  · cases ev'
/-- a constant's datum -/
def cstD : Const → Option D
  | .none => some .none
  | .bool b => some (.bool b)
  | .int i => some (.int i)
  | .str x => some (.str x)
  | _ => none
theorem se_cst {c : Const} {d : D} {j : Nat} {pos : Pos} (h : cstD c = some d) : SE p C X (.cst d) (.Constant c j pos) := by
  intro σ H F fr own m fr1 Q kt f ev k
  have ev' : R.ok (M.d d, fr) = .ok (m, fr1) := ev
  cases ev'
  cases c <;> cases h
  · exact we_of pe_non (k _ H kt (post_same f .none))
  · exact we_of pe_bl (k _ H kt (post_same f (.bool _)))
  · exact we_of pe_int (k _ H kt (post_same f (.int _)))
  · exact we_of pe_str (k _ H kt (post_same f (.str _)))
/-- a module's constant -/
def GlbOk (g : Nat → Option D) (nm : Nat → Str) (X : Cx) : Prop := ∀ k d, g k = some d → ∃ (v : V) (u : Value), X.mg (nm k) = some u ∧ RelV v u ∧ ((nm k) == ("__debug__" : Str)) = false ∧ ∀ (H : Hp) (A : AS), KT X.K H → TrkA H A → Rp X.K H A v d
theorem se_glob (x : XOk p N sc top X) {nm : Nat → Str} {kk : Nat} {pos : Pos} (g : GlbOk C.glb nm X) (gl : glB sc (nm kk) = true) : SE p C X (.glob kk) (.Name (nm kk) pos) := by
  intro σ H F fr own m fr1 Q kt f ev k
  have ev' : (match C.glb kk with
    | some x => R.ok (M.d x, fr)
    | none => .stuck) = .ok (m, fr1) := ev
  split at ev'
  · rename_i d hd
    cases ev'
    obtain ⟨v, u, h1, h2, h3, h4⟩ := g kk d hd
    exact we_of (pe_glob (gl_of x gl) h1 h2 h3) (k v H kt (post_same f (h4 H _ kt f.all_trk)))
  · cases ev'
end
end Mn
/-! Mn, part G: displays, and, or, not, tests. -/
namespace Mn
open PySem L2 PySem.Spec
open PyProof.Rows hiding St

/-- behind an expression whose value never changes -/
def PostD (p : PC) (K : PySem.W.Frag) (F : AS) (σ : L2.St) (H0 : Hp) (own0 : Nat → AS) (fr1 : Fr) (x : D) (v : V) (H : Hp) : Prop :=
  ∃ (own : Nat → AS), FR p K F σ H fr1 own ∧ Rp K H (or_ F (Own own)) v x ∧ Step H0 (Own own0) H (Own own)
section
variable {p : PC} {N : List Str} {sc : Scope} {top : Bool} {X : Cx} {C : Ctx}
theorem post_d {pu : Bool} {F : AS} {σ : L2.St} {H0 : Hp} {own0 : Nat → AS} {fr1 : Fr} {x : D} {v : V} {H : Hp} (h : Post p X.K pu F σ H0 own0 fr1 (.d x) v H) : PostD p X.K F σ H0 own0 fr1 x v H := by
  obtain ⟨own, fp, f, m, s, _⟩ := h
  exact ⟨own, f.weak fun a z => .inl z, m.dat.1.imp fun a z => z.elim (fun q => .inl (.inl q)) .inr, s.sub (fun _ z => z) fun a z => .inl z⟩
theorem post_of {F : AS} {σ : L2.St} {H0 : Hp} {own0 : Nat → AS} {fr1 : Fr} {x : D} {v : V} {H : Hp} (h : PostD p X.K F σ H0 own0 fr1 x v H) : Post p X.K false F σ H0 own0 fr1 (.d x) v H := by
  obtain ⟨own, f, r, s⟩ := h
  exact ⟨own, noA, f.weak (fun a z => z.elim id False.elim), .b (.d (r.imp fun a z => z.elim (fun q => .inl (q.elim id False.elim)) .inr) fun _ z => z), s.sub (fun _ z => z) (fun a z => z.elim id False.elim), fun z => by cases z⟩
theorem post_trans {pu : Bool} {F : AS} {σ : L2.St} {H0 H1 H : Hp} {own0 own1 : Nat → AS} {fr1 : Fr} {m : M} {v : V} (s : Step H0 (Own own0) H1 (Own own1)) (h : Post p X.K pu F σ H1 own1 fr1 m v H) : Post p X.K false F σ H0 own0 fr1 m v H := by
  obtain ⟨own, fp, f, r, t, _⟩ := h
  exact ⟨own, fp, f, r, s.trans t, fun z => by cases z⟩
theorem PostT.trans {F : AS} {σ : L2.St} {H0 H1 H : Hp} {own0 own1 : Nat → AS} {fr1 : Fr} (s : Step H0 (Own own0) H1 (Own own1)) (h : PostT p X.K F σ H1 own1 fr1 H) : PostT p X.K F σ H0 own0 fr1 H := by
  obtain ⟨own, f, t⟩ := h
  exact ⟨own, f, s.trans t⟩
theorem PostD.t {F : AS} {σ : L2.St} {H0 : Hp} {own0 : Nat → AS} {fr1 : Fr} {x : D} {v : V} {H : Hp} (h : PostD p X.K F σ H0 own0 fr1 x v H) : PostT p X.K F σ H0 own0 fr1 H := let ⟨own, f, _, s⟩ := h; ⟨own, f, s⟩
theorem Rp.blv {K : PySem.W.Frag} {H : Hp} {A : AS} {v : V} {b : Bool} (h : Rp K H A v (.bool b)) : v = .bl b := by cases h; rfl
theorem Rp.rn {K : PySem.W.Frag} {H : Hp} {A : AS} {v : V} {d : D} (h : Rp K H A v d) : Rn K H A v d := .p h
/-- two steps of what never changes -/
theorem Rp.on {F : AS} {σ : L2.St} {H0 H : Hp} {own0 own : Nat → AS} {fr1 : Fr} {x : D} {v : V} (r : Rp X.K H0 (or_ F (Own own0)) v x) (kt : KT X.K H) (f : FR p X.K F σ H fr1 own) (s : Step H0 (Own own0) H (Own own)) : Rp X.K H (or_ F (Own own)) v x :=
  r.step (kk_of kt f.own_trk) s (fun a z => .inr z) fun a z => z.elim (fun q => .inl (.inl q)) .inr
theorem RpAll.on {F : AS} {σ : L2.St} {H0 H : Hp} {own0 own : Nat → AS} {fr1 : Fr} {x : List D} {v : List V} (r : RpAll X.K H0 (or_ F (Own own0)) v x) (kt : KT X.K H) (f : FR p X.K F σ H fr1 own) (s : Step H0 (Own own0) H (Own own)) : RpAll X.K H (or_ F (Own own)) v x :=
  r.step (kk_of kt f.own_trk) s (fun a z => .inr z) fun a z => z.elim (fun q => .inl (.inl q)) .inr
theorem Step.own_new {H H1 : Hp} {own : Nat → AS} {fp : AS} {own1 : Nat → AS} {F : AS} {σ : L2.St} {K : PySem.W.Frag} {fr : Fr} (f : FR p K F σ H fr own) (s : Step H (Own own) H1 (or_ (Own own1) fp)) : ∀ a, fp a → ¬ F a := fun a z q => by
  rcases s.2 a (.inr z) with ⟨i, w⟩ | w
  · exact f.forn i a w q
  · obtain ⟨o, e, _⟩ := f.trk a q
    rw [w] at e; cases e
/-- a value, frozen where it is a list at hand -/
theorem sv_elem {c : CE} {e : Expr} (se : SE p C X c e) {σ : L2.St} {H : Hp} {F : AS} {fr : Fr} {own : Nat → AS} {m : M} {fr1 : Fr} {x : D} {Q : VK} (kt : KT X.K H) (f : FR p X.K F σ H fr own) (ev : evE C c fr = .ok (m, fr1)) (fz : m.fz = some x)
    (k : ∀ v H1, KT X.K H1 → PostD p X.K F σ H own fr1 x v H1 → Q v H1) : WE X e σ H Q := by
  intro pins s I
  refine thn (se σ H F fr own m fr1 (Post p X.K (pureE c) F σ H own fr1 m) kt f ev (fun v H1 _ q => q) pins s I) fun u s1 ⟨v, H1, I1, r1, own1, fp, f1, m1, s1', _⟩ => ?_
  cases m with
  | d y =>
    cases fz
    exact ⟨v, H1, I1, r1, k v H1 (kt_of I1) (post_d (pu := false) ⟨own1, fp, f1, m1, s1', fun z => by cases z⟩)⟩
  | lst xs =>
    cases fz
    obtain ⟨a, vs, rfl, ha, q, qf⟩ := m1.lst
    obtain ⟨o, _, I2⟩ := inv_frz I1 ha
    have kt2 := kt_of I2
    have st : Step H1 (fun b => b = a) (upd H1 a (.frz o (.lst vs))) noA := ⟨fun b u e n => by rw [upd_ne n]; exact e, fun _ z => z.elim⟩
    have tr : TrkA (upd H1 a (.frz o (.lst vs))) F := fun b z => by
      by_cases hb : b = a
      · subst hb; exact ⟨_, upd_same, fun xs z => by cases z⟩
      · obtain ⟨u, e, n⟩ := f1.trk b (.inl z)
        exact ⟨u, by rw [upd_ne hb]; exact e, n⟩
    have f2 : FR p X.K F σ (upd H1 a (.frz o (.lst vs))) fr1 own1 := f1.stepW kt2 st (fun b z => .inr ((qf b).mpr z)) (fun b z => .inl (.inl z)) tr (fun b z => z.elim)
    have nF := Step.own_new f s1'
    refine ⟨.ref a, _, I2, r1, k _ _ kt2 ⟨own1, f2, .lst (.inl ⟨o, upd_same⟩) (fun z => ?_) ?_, ?_⟩⟩
    · rcases z with z | ⟨j, z⟩
      · exact nF a ((qf a).mpr rfl) z
      · exact f1.forn j a z (.inr ((qf a).mpr rfl))
    · exact q.step (W := fun b => b = a) (W' := noA) (fun _ _ _ z => z) st (fun b z => .inl (.inr ((qf b).mpr z))) fun b z => .inl (z.elim (fun q => .inl (.inl q)) .inr)
    · refine (s1'.trans ((st.frame (Own own1)).sub (W1 := or_ (Own own1) fp) (W1' := Own own1) (fun b z => ?_) fun b z => .inr z))
      rcases z with z | z
      · exact .inr ((qf b).mpr z)
      · exact .inl z
  | lck _ => cases fz
  | dic _ => cases fz
  | set _ => cases fz
  | ins _ _ => cases fz
theorem sv_nil : SV p C X .nil [] := by
  intro σ H F fr own os fr1 Q kt f e k
  have e' : (R.ok (([] : List D), fr)) = .ok (os, fr1) := e
  cases e'
  exact k [] H kt rfl ⟨own, f, .nil, Step.refl _ _⟩
theorem sv_cons {a as : CE} {e : Expr} {es : List Expr} (sa : SE p C X a e) (ss : SV p C X as es) : SV p C X (.cons a as) (e :: es) := by
  intro σ H F fr own os fr1 Q kt f ev k
  have ev' : ((evE C a fr).bind fun (m, fr) => match m.fz with
    | some x => (evVs C as fr).bind fun (xs, fr) => .ok (x :: xs, fr)
    | none => .stuck) = R.ok (os, fr1) := ev
  obtain ⟨⟨m, fr2⟩, q1, q2⟩ := bind_ok ev'
  simp only at q2
  split at q2
  · rename_i x hx
    obtain ⟨⟨xs, fr3⟩, q3, q4⟩ := bind_ok q2
    cases q4
    refine sv_elem sa kt f q1 hx fun v H1 kt1 ⟨own1, f1, r1, s1⟩ => ?_
    refine ss σ H1 F fr2 own1 xs _ _ kt1 f1 q3 fun vs H2 kt2 hl ⟨own2, f2, r2, s2⟩ => ?_
    exact k _ H2 kt2 (by rw [List.length_cons, List.length_cons, hl]) ⟨own2, f2, .cons (r1.on kt2 f2 s2) r2, s1.trans s2⟩
  · cases q2
theorem post_res {F : AS} {σ : L2.St} {H0 H1 H2 : Hp} {own0 own : Nat → AS} {fr1 : Fr} {m : M} {v : V} (kt2 : KT X.K H2) (f : FR p X.K F σ H1 fr1 own) (s : Step H0 (Own own0) H1 (Own own)) (r : Res p X.K H1 (or_ F (Own own)) m v H2) : Post p X.K false F σ H0 own0 fr1 m v H2 := by
  refine post_op (fp := noA) (pu := false) kt2 (f.weak fun a z => z.elim id False.elim) (s.sub (fun _ z => z) fun a z => z.elim id False.elim) (fun z => by cases z) fun kt => ?_
  obtain ⟨fp, m, g, n⟩ := r kt
  exact ⟨fp, m.imp fun a z => z.elim (fun q => q.elim (fun q => .inl (.inl (q.elim id False.elim))) fun q => .inl (.inr q)) .inr, g, n⟩
theorem se_tup {cs : CE} {es : List Expr} {kk : Nat} {pos : Pos} (ok : es.all okE = true) (few : es.length ≤ 1000) (ss : SV p C X cs es) : SE p C X (.tup cs) (.Tuple es kk pos) := by
  intro σ H F fr own m fr1 Q kt f ev k
  obtain ⟨⟨xs, fr2⟩, q1, q2⟩ := bind_ok (show ((evVs C cs fr).bind fun (xs, fr) => R.ok (M.d (.tuple xs), fr)) = .ok (m, fr1) from ev)
  cases q2
  refine we_kt (we_of (pe_tup (pa_wes ok)) ?_)
  refine ss σ H F fr own xs fr1 _ kt f q1 fun vs H1 kt1 hl ⟨own1, f1, r1, s1⟩ => ⟨by rw [hl, ← line_eq]; exact Nat.le_trans few (by decide), fun q n kt2 => ?_⟩
  exact k _ _ kt2 (post_res kt2 f1 s1 (res_tup r1 n (not_new f1.all_trk n)))
theorem se_lst {cs : CE} {es : List Expr} {pos : Pos} (ok : es.all okE = true) (few : es.length ≤ 1000) (ss : SV p C X cs es) : SE p C X (.lst cs) (.List es pos) := by
  intro σ H F fr own m fr1 Q kt f ev k
  obtain ⟨⟨xs, fr2⟩, q1, q2⟩ := bind_ok (show ((evVs C cs fr).bind fun (xs, fr) => R.ok (M.lst xs, fr)) = .ok (m, fr1) from ev)
  cases q2
  refine we_kt (we_of (pe_lst (pa_wes ok)) ?_)
  refine ss σ H F fr own xs fr1 _ kt f q1 fun vs H1 kt1 hl ⟨own1, f1, r1, s1⟩ => ⟨by rw [hl, ← line_eq]; exact Nat.le_trans few (by decide), fun q n kt2 => ?_⟩
  exact k _ _ kt2 (post_res kt2 f1 s1 (res_lst r1 n))
theorem se_edict {pos : Pos} : SE p C X .edict (.Dict [] [] pos) := by
  intro σ H F fr own m fr1 Q kt f ev k
  cases (show R.ok (M.dic [], fr) = .ok (m, fr1) from ev)
  refine we_kt (we_of pe_dnewK fun q n kt2 => ?_)
  refine k _ _ kt2 (post_res kt2 f (Step.refl _ _) fun kt => ⟨fun a => a = q, .b (.dicK upd_same .nil fun _ => Iff.rfl), grow_new n, fun a z => by rw [z]; exact n⟩)

/-! ### and, or, not as values -/
theorem se_and {a b : CE} {ea eb : Expr} {r : List Expr} {pos : Pos} (sa : SE p C X a ea) (sb : SE p C X b (.BoolOp .And (eb :: r) pos)) : SE p C X (.and a b) (.BoolOp .And (ea :: eb :: r) pos) := by
  intro σ H F fr own m fr1 Q kt f ev k
  obtain ⟨⟨m1, fr2⟩, q1, q2⟩ := bind_ok (show ((evE C a fr).bind fun (m, fr) => match m with
    | .d (.bool true) => evE C b fr
    | .d (.bool false) => R.ok (.d (.bool false), fr)
    | _ => .stuck) = .ok (m, fr1) from ev)
  simp only at q2
  refine we_of (pe_and pe_we pe_we) ?_
  refine sa σ H F fr own m1 fr2 _ kt f q1 fun v H1 kt1 po => ?_
  split at q2
  · obtain ⟨own1, f1, r1, s1⟩ := post_d po
    refine ⟨true, r1.blv, ?_⟩
    rw [if_pos rfl]
    exact sb σ H1 F fr2 own1 m fr1 Q kt1 f1 q2 fun v H2 kt2 po2 => k v H2 kt2 (post_trans s1 po2)
  · cases q2
    have po' := post_d po
    obtain ⟨own1, f1, r1, s1⟩ := id po'
    refine ⟨false, r1.blv, ?_⟩
    rw [if_neg (by decide)]
    rw [r1.blv] at po'
    exact k _ H1 kt1 (post_of po')
  · cases q2
theorem se_or {a b : CE} {ea eb : Expr} {r : List Expr} {pos : Pos} (sa : SE p C X a ea) (sb : SE p C X b (.BoolOp .Or (eb :: r) pos)) : SE p C X (.or a b) (.BoolOp .Or (ea :: eb :: r) pos) := by
  intro σ H F fr own m fr1 Q kt f ev k
  obtain ⟨⟨m1, fr2⟩, q1, q2⟩ := bind_ok (show ((evE C a fr).bind fun (m, fr) => match m with
    | .d (.bool true) => R.ok (.d (.bool true), fr)
    | .d (.bool false) => evE C b fr
    | _ => .stuck) = .ok (m, fr1) from ev)
  simp only at q2
  refine we_of (pe_or pe_we pe_we) ?_
  refine sa σ H F fr own m1 fr2 _ kt f q1 fun v H1 kt1 po => ?_
  split at q2
  · cases q2
    have po' := post_d po
    obtain ⟨own1, f1, r1, s1⟩ := id po'
    refine ⟨true, r1.blv, ?_⟩
    rw [if_pos rfl]
    rw [r1.blv] at po'
    exact k _ H1 kt1 (post_of po')
  · obtain ⟨own1, f1, r1, s1⟩ := post_d po
    refine ⟨false, r1.blv, ?_⟩
    rw [if_neg (by decide)]
    exact sb σ H1 F fr2 own1 m fr1 Q kt1 f1 q2 fun v H2 kt2 po2 => k v H2 kt2 (post_trans s1 po2)
  · cases q2
theorem se_one {c : CE} {op : BoolOp} {e : Expr} {pos : Pos} (s : SE p C X c e) : SE p C X c (.BoolOp op [e] pos) := fun σ H F fr own m fr1 Q kt f ev k =>
  we_of (pe_one pe_we) (s σ H F fr own m fr1 Q kt f ev k)
theorem se_not {a : CE} {ea : Expr} {pos : Pos} (sa : SE p C X a ea) : SE p C X (.not a) (.UnaryOp .Not ea pos) := by
  intro σ H F fr own m fr1 Q kt f ev k
  obtain ⟨⟨m1, fr2⟩, q1, q2⟩ := bind_ok (show ((evE C a fr).bind fun (m, fr) => match m with
    | .d (.bool b) => R.ok (.d (.bool (!b)), fr)
    | _ => .stuck) = .ok (m, fr1) from ev)
  simp only at q2
  refine we_of (pe_not pe_we) ?_
  refine sa σ H F fr own m1 fr2 _ kt f q1 fun v H1 kt1 po => ?_
  split at q2
  · rename_i b
    cases q2
    obtain ⟨own1, f1, r1, s1⟩ := post_d po
    exact ⟨b, r1.blv, k _ H1 kt1 (post_of ⟨own1, f1, .bool _, s1⟩)⟩
  · cases q2
theorem se_ite {c a b : CE} {ec ea eb : Expr} {pos : Pos} (sc' : ST p C X c ec) (sa : SE p C X a ea) (sb : SE p C X b eb) : SE p C X (.ite c a b) (.IfExp ec ea eb pos) := by
  intro σ H F fr own m fr1 Q kt f ev k
  obtain ⟨⟨t, fr2⟩, q1, q2⟩ := bind_ok (show ((evT C c fr).bind fun (t, fr) => if t then evE C a fr else evE C b fr) = .ok (m, fr1) from ev)
  refine we_of (pe_ifExp pt_wt pe_we pe_we) ?_
  refine sc' σ H F fr own t fr2 _ kt f q1 fun H1 kt1 ⟨own1, f1, s1⟩ => ?_
  cases t with
  | true => exact sa σ H1 F fr2 own1 m fr1 Q kt1 f1 q2 fun v H2 kt2 po => k v H2 kt2 (post_trans s1 po)
  | false => exact sb σ H1 F fr2 own1 m fr1 Q kt1 f1 q2 fun v H2 kt2 po => k v H2 kt2 (post_trans s1 po)
/-- an operation on two data at hand -/
theorem lf2_use {o : Op} {g : Value → Value → Sem Value} (lf : Lf2 p X g (opsem o)) {H : Hp} {A : AS} {x y : V} {a b : D} {m : M} {Q : VK} (tr : TrkA H A) (ra : Rp X.K H A x a) (rb : Rp X.K H A y b) (e : opsem o [a, b] = some m) (k : ∀ v H1, KT X.K H1 → Res p X.K H A m v H1 → Q v H1) : rW2 X g x y H Q :=
  fun pins s σ u w I rx ry => ep_kt' (lf pins s σ H A x y u w a b m I tr rx ry (.p ra) (.p rb) e) k
theorem ev_chain {o q : Op} {a b c : CE} {fr fr1 : Fr} {m : M} (ev : evE C (.chain o q a b c) fr = .ok (m, fr1)) : ∃ x y fr2 fr3, evE C a fr = .ok (.d x, fr2) ∧ evE C b fr2 = .ok (.d y, fr3) ∧
    ((opsem o [x, y] = some (.d (.bool false)) ∧ m = .d (.bool false) ∧ fr1 = fr3) ∨ ∃ z t, opsem o [x, y] = some (.d (.bool true)) ∧ evE C c fr3 = .ok (.d z, fr1) ∧ opsem q [y, z] = some (.d (.bool t)) ∧ m = .d (.bool t)) := by
  obtain ⟨⟨m1, fr2⟩, q1, q2⟩ := bind_ok (show ((evE C a fr).bind fun (x, fr) => (evE C b fr).bind fun (y, fr) => match x, y with
    | .d x, .d y => match opsem o [x, y] with
      | some (.d (.bool true)) => (evE C c fr).bind fun (z, fr) => match z with
        | .d z => match opsem q [y, z] with
          | some (.d (.bool t)) => R.ok (.d (.bool t), fr)
          | _ => .stuck
        | _ => .stuck
      | some (.d (.bool false)) => .ok (.d (.bool false), fr)
      | _ => .stuck
    | _, _ => .stuck) = .ok (m, fr1) from ev)
  obtain ⟨⟨m2, fr3⟩, q3, q4⟩ := bind_ok q2
  simp only at q4
  split at q4
  · rename_i x y
    split at q4
    · rename_i h
      obtain ⟨⟨m3, fr4⟩, q5, q6⟩ := bind_ok q4
      simp only at q6
      split at q6
      · rename_i z
        split at q6
        · rename_i t ht
          cases q6
          exact ⟨x, y, fr2, fr3, q1, q3, .inr ⟨z, t, h, q5, ht, rfl⟩⟩
        · cases q6
      · cases q6
    · rename_i h
      cases q4
      exact ⟨x, y, fr2, _, q1, q3, .inl ⟨h, rfl, rfl⟩⟩
    · cases q4
  · cases q4
theorem res_bool {H H1 : Hp} {A : AS} {b : Bool} {v : V} (r : Res p X.K H A (.d (.bool b)) v H1) (kt : KT X.K H1) : v = .bl b := by
  obtain ⟨fp, m, _⟩ := r kt
  exact m.dat.1.blv
/-- behind an operation whose value is a datum -/
theorem postd_res {F : AS} {σ : L2.St} {H0 H1 H2 : Hp} {own0 own : Nat → AS} {fr1 : Fr} {x : D} {v : V} (kt2 : KT X.K H2) (f : FR p X.K F σ H1 fr1 own) (s : Step H0 (Own own0) H1 (Own own)) (r : Res p X.K H1 (or_ F (Own own)) (.d x) v H2) : PostD p X.K F σ H0 own0 fr1 x v H2 := post_d (post_res kt2 f s r)
theorem chain_run {o q : Op} {op op' : CmpOp} {a b c : CE} {ea eb ec : Expr} (lf : Lf2 p X (compareOp op) (opsem o)) (lf' : Lf2 p X (compareOp op') (opsem q)) (sa : SE p C X a ea) (sb : SE p C X b eb) (sc' : SE p C X c ec)
    {σ : L2.St} {H : Hp} {F : AS} {fr : Fr} {own : Nat → AS} {m : M} {fr1 : Fr} {Q : VK} (kt : KT X.K H) (f : FR p X.K F σ H fr own) (ev : evE C (.chain o q a b c) fr = .ok (m, fr1))
    (k : ∀ t H1, m = .d (.bool t) → KT X.K H1 → PostD p X.K F σ H own fr1 (.bool t) (.bl t) H1 → Q (.bl t) H1) : tChain (rW2 X (compareOp op)) (rW2 X (compareOp op')) (WE X ea) (WE X eb) (WE X ec) σ H Q := by
  obtain ⟨x, y, fr2, fr3, e1, e2, e3⟩ := ev_chain ev
  refine sa σ H F fr own _ fr2 _ kt f e1 fun v1 H1 kt1 po1 => ?_
  obtain ⟨own1, f1, r1, s1⟩ := post_d po1
  refine sb σ H1 F fr2 own1 _ fr3 _ kt1 f1 e2 fun v2 H2 kt2 po2 => ?_
  obtain ⟨own2, f2, r2, s2⟩ := post_d po2
  have r1' := r1.on kt2 f2 s2
  rcases e3 with ⟨h, rfl, rfl⟩ | ⟨z, t, h, e4, e5, rfl⟩
  · refine lf2_use lf f2.all_trk r1' r2 h fun v3 H3 kt3 res => ⟨false, res_bool res kt3, ?_⟩
    rw [if_neg (by decide)]
    have pd := postd_res kt3 f2 (s1.trans s2) res
    rw [res_bool res kt3] at pd
    exact k false H3 rfl kt3 pd
  · refine lf2_use lf f2.all_trk r1' r2 h fun v3 H3 kt3 res => ⟨true, res_bool res kt3, ?_⟩
    rw [if_pos rfl]
    obtain ⟨own3, f3, r3, s3⟩ := postd_res kt3 f2 (Step.refl _ _) res
    refine sc' σ H3 F fr3 own3 _ fr1 _ kt3 f3 e4 fun v4 H4 kt4 po4 => ?_
    obtain ⟨own4, f4, r4, s4⟩ := post_d po4
    have r2' := (r2.on kt3 f3 s3).on kt4 f4 s4
    refine lf2_use lf' f4.all_trk r2' r4 e5 fun v5 H5 kt5 res5 => ?_
    have pd := postd_res kt5 f4 (((s1.trans s2).trans s3).trans s4) res5
    rw [res_bool res5 kt5] at pd ⊢
    exact k t H5 rfl kt5 pd
theorem marks2 {op op' : CmpOp} {eb ec : Expr} (ok : okE ec = true) : lastMarks [op, op'] [eb, ec] = false := by
  show lastMarks [op'] [ec] = false
  exact marks_ok ok
theorem se_chain {o q : Op} {op op' : CmpOp} {a b c : CE} {ea eb ec : Expr} {pos : Pos} (lf : Lf2 p X (compareOp op) (opsem o)) (lf' : Lf2 p X (compareOp op') (opsem q)) (ok : okE ec = true) (sa : SE p C X a ea) (sb : SE p C X b eb) (sc' : SE p C X c ec) : SE p C X (.chain o q a b c) (.Compare ea [op, op'] [eb, ec] pos) := by
  intro σ H F fr own m fr1 Q kt f ev k
  refine we_of (pe_chain opr_w2 opr_w2 pe_we pe_we pe_we (marks2 ok)) (chain_run lf lf' sa sb sc' kt f ev fun t H1 e kt1 pd => ?_)
  subst e
  exact k _ H1 kt1 (post_of pd)

/-! ### tests -/
theorem st_chain {o q : Op} {op op' : CmpOp} {a b c : CE} {ea eb ec : Expr} {pos : Pos} (lf : Lf2 p X (compareOp op) (opsem o)) (lf' : Lf2 p X (compareOp op') (opsem q)) (ok : okE ec = true) (sa : SE p C X a ea) (sb : SE p C X b eb) (sc' : SE p C X c ec) : ST p C X (.tst (.chain o q a b c)) (.Compare ea [op, op'] [eb, ec] pos) := by
  intro σ H F fr own t fr1 Q kt f ev k
  obtain ⟨⟨m, fr2⟩, q1, q2⟩ := bind_ok (show ((evE C (.chain o q a b c) fr).bind fun (m, fr) => match m with
    | .d (.bool b) => R.ok (b, fr)
    | _ => .stuck) = .ok (t, fr1) from ev)
  simp only at q2
  refine wt_of (pt_chain opr_w2 opr_w2 pe_we pe_we pe_we (marks2 ok)) (chain_run lf lf' sa sb sc' kt f q1 fun t' H1 e kt1 pd => ⟨t', rfl, ?_⟩)
  subst e
  cases q2
  exact k H1 kt1 pd.t
theorem ev_tst {c : CE} {fr fr1 : Fr} {t : Bool} (ev : evT C (.tst c) fr = .ok (t, fr1)) : evE C c fr = .ok (.d (.bool t), fr1) := by
  obtain ⟨⟨m, fr2⟩, q1, q2⟩ := bind_ok (show ((evE C c fr).bind fun (m, fr) => match m with
    | .d (.bool b) => R.ok (b, fr)
    | _ => .stuck) = .ok (t, fr1) from ev)
  simp only at q2
  split at q2
  · cases q2; exact q1
  · cases q2
/-- a comparison -/
theorem st_cmp {o : Op} {op : CmpOp} {cs : CE} {ea eb : Expr} {pos : Pos} (lf : Lf2 p X (compareOp op) (opsem o)) (ok : okE eb = true) (ss : SO p C X cs [ea, eb]) : ST p C X (.tst (.op o cs)) (.Compare ea [op] [eb] pos) := by
  intro σ H F fr own t fr1 Q kt f ev k
  obtain ⟨os, ds, e1, e2, e3⟩ := ev_op (ev_tst ev)
  refine wt_of (pt_cmpR opr_w2 pe_we pe_we (marks_ok ok)) ?_
  refine ss σ H F fr own os fr1 (fun vs H1 => rW2 X (compareOp op) (vs.getD 0 .non) (vs.getD 1 .non) H1 _) kt f e1 fun vs H1 kt1 hl ⟨own1, fp, f1, o1, s1, p1⟩ => ?_
  have rn := ops_rn f1 o1 e2
  cases rn with
  | nil => cases hl
  | cons r1 r2 =>
    cases r2 with
    | nil => cases hl
    | cons r2 r3 =>
      cases r3 with
      | nil =>
        intro pins s σ' u w I ra rb
        refine ep_kt' (lf pins s σ' H1 _ _ _ u w _ _ _ I f1.all_trk ra rb r1 r2 e3) fun v H2 kt2 res => ⟨t, res_bool res kt2, k H2 kt2 (post_d (post_op (pu := false) kt2 f1 s1 (fun z => by cases z) res)).t⟩
      | cons r3 r4 => simp at hl
def plainT : Expr → Bool
  | .Call _ _ _ _ => true
  | .Name _ _ => true
  | .Constant _ _ _ => true
  | .Subscript _ _ _ => true
  | .Attribute _ _ _ => true
  | _ => false
theorem st_val {c : CE} {e : Expr} (pl : plainT e = true) (se : SE p C X c e) : ST p C X (.tst c) e := by
  intro σ H F fr own t fr1 Q kt f ev k
  have h : ∀ whole, isTrue e X.env whole = (do let v ← whole; standAt e.pos; holding [v] (truthy v)) := by
    intro whole
    cases e <;> first | rfl | (cases pl)
  refine wt_of (pt_val pe_we h) (se σ H F fr own _ fr1 _ kt f (ev_tst ev) fun v H1 kt1 po => ?_)
  have pd := post_d po
  obtain ⟨own1, f1, r1, s1⟩ := id pd
  exact ⟨t, r1.blv, k H1 kt1 pd.t⟩
theorem st_not {a : CE} {ea : Expr} {pos : Pos} (sa : ST p C X a ea) : ST p C X (.not a) (.UnaryOp .Not ea pos) := by
  intro σ H F fr own t fr1 Q kt f ev k
  obtain ⟨⟨m, fr2⟩, q1, q2⟩ := bind_ok (show ((evT C a fr).bind fun (t, fr) => R.ok (!t, fr)) = .ok (t, fr1) from ev)
  cases q2
  exact wt_of (pt_not pt_wt) (sa σ H F fr own m fr1 _ kt f q1 fun H1 kt1 po => k H1 kt1 po)
theorem st_w {c : CE} {e : Expr} (s : SW p C X c e) : ST p C X c e := fun σ H F fr own t fr1 Q kt f ev k => wt_of pw_ww.pt (s σ H F fr own t fr1 Q kt f ev k)
theorem sw_and1 {c : CE} {e : Expr} {pos : Pos} (s : ST p C X c e) : SW p C X c (.BoolOp .And [e] pos) := fun σ H F fr own t fr1 Q kt f ev k => ww_of (pw_and1 pt_wt) (s σ H F fr own t fr1 Q kt f ev k)
theorem sw_or1 {c : CE} {e : Expr} {pos : Pos} (s : ST p C X c e) : SW p C X c (.BoolOp .Or [e] pos) := fun σ H F fr own t fr1 Q kt f ev k => ww_of (pw_or1 pt_wt) (s σ H F fr own t fr1 Q kt f ev k)
theorem sw_and {a b : CE} {ea eb : Expr} {r : List Expr} {pos : Pos} (sa : ST p C X a ea) (sb : SW p C X b (.BoolOp .And (eb :: r) pos)) : SW p C X (.and a b) (.BoolOp .And (ea :: eb :: r) pos) := by
  intro σ H F fr own t fr1 Q kt f ev k
  obtain ⟨⟨t1, fr2⟩, q1, q2⟩ := bind_ok (show ((evT C a fr).bind fun (t, fr) => if t then evT C b fr else R.ok (false, fr)) = .ok (t, fr1) from ev)
  refine ww_of (pw_and pt_wt pw_ww) (sa σ H F fr own t1 fr2 _ kt f q1 fun H1 kt1 ⟨own1, f1, s1⟩ => ?_)
  cases t1 with
  | true => exact sb σ H1 F fr2 own1 t fr1 Q kt1 f1 q2 fun H2 kt2 po => k H2 kt2 (PostT.trans s1 po)
  | false => cases q2; exact k H1 kt1 ⟨own1, f1, s1⟩
theorem sw_or {a b : CE} {ea eb : Expr} {r : List Expr} {pos : Pos} (sa : ST p C X a ea) (sb : SW p C X b (.BoolOp .Or (eb :: r) pos)) : SW p C X (.or a b) (.BoolOp .Or (ea :: eb :: r) pos) := by
  intro σ H F fr own t fr1 Q kt f ev k
  obtain ⟨⟨t1, fr2⟩, q1, q2⟩ := bind_ok (show ((evT C a fr).bind fun (t, fr) => if t then R.ok (true, fr) else evT C b fr) = .ok (t, fr1) from ev)
  refine ww_of (pw_or pt_wt pw_ww) (sa σ H F fr own t1 fr2 _ kt f q1 fun H1 kt1 ⟨own1, f1, s1⟩ => ?_)
  cases t1 with
  | true => cases q2; exact k H1 kt1 ⟨own1, f1, s1⟩
  | false => exact sb σ H1 F fr2 own1 t fr1 Q kt1 f1 q2 fun H2 kt2 po => k H2 kt2 (PostT.trans s1 po)
end
end Mn
/-! Mn, part Rv: x[::-1] of lists and tuples; tuples, lists of ranges. -/
namespace Mn
open PySem L2 PySem.Spec
open PyProof.Rows hiding St
open HT

section
variable {prog : Program} {w : World} {A : Around} {s : Shared} {E : Value → Shared → Prop}
theorem adj_rev (n : Nat) : Builtin.Slice.sliceAdjust none none (-1) (n : Int) = ((n : Int) - 1, -1) := by
  (unfold Builtin.Slice.sliceAdjust)
  simp
theorem places_rev (n : Nat) : Builtin.Slice.slicePlaces ((n : Int) - 1) (-1) (-1) = n := by
  (unfold Builtin.Slice.slicePlaces)
  cases n with
  | zero => simp
  | succ n => simp; omega
theorem fm_congr {α β : Type} {f g : α → Option β} : ∀ {l : List α}, (∀ a ∈ l, f a = g a) → l.filterMap f = l.filterMap g
  | [], _ => rfl
  | a :: r, h => by rw [List.filterMap_cons, List.filterMap_cons, h a List.mem_cons_self, fm_congr fun b hb => h b (List.mem_cons_of_mem _ hb)]
theorem pick_rev (xs : Array Value) : ((List.range xs.size).filterMap fun (m : Nat) => xs[(((xs.size : Nat) : Int) - 1 + (m : Int) * (-1)).toNat]?).toArray = xs.toList.reverse.toArray := by
  have e1 : (List.range xs.size).filterMap (fun (m : Nat) => xs[(((xs.size : Nat) : Int) - 1 + (m : Int) * (-1)).toNat]?) = ((List.range xs.size).map fun k => xs.size - 1 - k).filterMap (xs[·]?) := by
    rw [List.filterMap_map]
    refine fm_congr fun m hm => ?_
    have hlt : m < xs.size := List.mem_range.mp hm
    have : (((xs.size : Nat) : Int) - 1 + (m : Int) * (-1)).toNat = xs.size - 1 - m := by omega
    rw [this]; rfl
  rw [e1, PySem.W.krv_range, List.filterMap_reverse, PySem.W.krv_all]
theorem applied_rev {sl : Addr} {vl vu vs : Value} {n : Nat} {Q : Int × Int × Nat → Shared → Prop} (hs : s.heap.IsSliceOf sl vl vu vs) (pl : IsPart vl none) (pu : IsPart vu none) (ps : IsPart vs (some (-1)))
    (h : Q ((n : Int) - 1, -1, n) s) : wpAny (model prog w) A (Builtin.Slice.sliceApplied (.ref sl) (pure (n : Int))) Q E s := by
  obtain ⟨o, ho, hc, hd⟩ := id hs
  (unfold Builtin.Slice.sliceApplied Builtin.Slice.sliceFields)
  refine wpAny_bind (wpAny_bind (wpAny_field ho hd (x := vl) rfl (wpAny_bind (wpAny_field ho hd (x := vu) rfl (wpAny_bind (wpAny_field ho hd (x := vs) rfl (wpAny_pure ?_)))))))
  refine wpAny_bind (HT.slicePart_ ps ?_)
  show wpAny _ _ (if ((-1 : Int) == 0) = true then _ else _) _ _ s
  rw [if_neg (by decide)]
  refine wpAny_bind (HT.slicePart_ pl (wpAny_bind (HT.slicePart_ pu (wpAny_bind (wpAny_pure ?_)))))
  show wpAny _ _ (match Builtin.Slice.sliceAdjust none none (-1) (n : Int) with | (lo, hi) => pure (lo, (-1 : Int), Builtin.Slice.slicePlaces lo hi (-1))) _ _ s
  rw [adj_rev]
  show wpAny _ _ (pure ((n : Int) - 1, (-1 : Int), Builtin.Slice.slicePlaces ((n : Int) - 1) (-1) (-1))) _ _ s
  rw [places_rev]
  exact wpAny_pure h
theorem getItem_tuple_rev {t sl : Addr} {its : Array Value} {vl vu vs : Value} {Q : Value → Shared → Prop} (ht : IsTup s.heap t its) (hs : s.heap.IsSliceOf sl vl vu vs) (pl : IsPart vl none) (pu : IsPart vu none) (ps : IsPart vs (some (-1)))
    (h : Q (.ref s.heap.objs.size) { s with heap := s.heap.push { cls := .type "tuple", data := .seq its.toList.reverse.toArray } }) (hz : its.size ≤ sizeLine) : wpAny (model prog w) A (getItem (.ref t) (.ref sl)) Q E s := by
  have hsz : sizeOk (.seq its.toList.reverse.toArray) := by
    show its.toList.reverse.toArray.size ≤ sizeLine
    rw [List.size_toArray, List.length_reverse, Array.length_toList]; exact hz
  obtain ⟨o, ho, hc, hd⟩ := id hs
  have hT : s.TypeIs (.ref sl) "slice" := ⟨o, ho, hc⟩
  unfold getItem
  (try with_reducible refine wpAny_holding ?_)
  (first | refine wpAny_bind (wpAny_pure ?_) | skip)
  refine (wpAny_bind (wpAny_sequenceKey ht.typeIs (by decide) ?_))
  refine wpAny_bind (wpAny_callSpecial?_slot (name := Str.ofString "__getitem__") (ht.typeIs) PyProof.Rows.slot_tuple_getitem
    (wpAny_call_entry PyProof.Rows.slot_tuple_getitem ht.typeIs entry_tuple_getitem (?_) (args_tuple_getitem _ _)))
  (show wpAny _ _ (Builtin.Tuple.tupleItemsOf (.ref t) >>= _) _ _ s)
  refine (wpAny_bind (tupleItemsOf_ ht ?_))
  refine (wpAny_bind (wpAny_typeOf hT ?_))
  rw [if_pos (by decide)]
  refine wpAny_bind (applied_rev (n := its.size) hs pl pu ps ?_)
  have hno : ¬ (((((its.size : Nat) : Int) - 1) == 0 && (-1 : Int) == 1 && its.size == its.size) = true) := by
    intro q
    (rw [Bool.and_eq_true, Bool.and_eq_true] at q)
    exact absurd q.1.2 (by decide)
  show wpAny _ _ (if ((((its.size : Nat) : Int) - 1) == 0 && (-1 : Int) == 1 && its.size == its.size) = true then _ else _) _ _ s
  rw [if_neg hno, pick_rev]
  first
    | exact wpAny_bind (m := Builtin.Tuple.tupleExact _) (wpAny_newObj_type (wpAny_pure ⟨_, rfl, wpAny_pure h⟩) hsz)
    | exact wpAny_bind (m := Builtin.Tuple.tupleExact _) (wpAny_newObj_type (wpAny_bind (wpAny_pure (wpAny_pure ⟨_, rfl, wpAny_pure h⟩))) hsz)
    | exact wpAny_bind (wpAny_bind (m := Builtin.Tuple.tupleExact _) (wpAny_newObj_type (wpAny_pure (wpAny_pure ⟨_, rfl, wpAny_pure h⟩)) hsz))
    | exact wpAny_bind (wpAny_bind (m := Builtin.Tuple.tupleExact _) (wpAny_newObj_type (wpAny_pure ⟨_, rfl, wpAny_pure h⟩) hsz))
end
section
variable {p : PC} {N : List Str} {sc : Scope} {top : Bool} {X : Cx} {C : Ctx}
def rRev (K : PySem.W.Frag) : V → Hp → VK → Prop := fun x H Q => ∃ a xs, x = .ref a ∧ ((SqL K H a xs ∧ ∀ q, H q = none → Q (.ref q) (upd H q (.lst xs.reverse))) ∨ (SqT K H a xs ∧ ∀ q, H q = none → Q (.ref q) (upd H q (.tup xs.reverse))))
theorem pe_rev {e : Expr} {k : Nat} {p1 p2 p3 pos : Pos} : PE X (.Subscript e (.Slice none none (some (.UnaryOp .USub (.Constant (.int 1) k p1) p2)) p3) pos) (fun σ H Q => WE X e σ H fun x H1 => rRev X.K x H1 Q) := by
  refine ⟨?_⟩; intro pins s σ H Q I h
  refine Subscript_ (thn (h pins s I) fun v s1 ⟨x, H1, I1, r1, a, xs, ex, q⟩ => ?_)
  subst ex
  cases r1
  have one : PO X (some (.UnaryOp .USub (.Constant (.int 1) k p1) p2)) (tPart (tUn (rU fun i => .int (-i)) (tC (.int 1)))) := po_some (pe_un un_neg pe_int)
  refine wpAny_Slice (thn (po_none.run pins s1 σ H1 (fun o G => o = none ∧ G = H1) I1 ⟨rfl, rfl⟩) fun vl s2 ⟨l, H2, I2, pl, el, e2⟩ => ?_)
  subst el; subst e2
  refine thn (po_none.run pins s2 σ H2 (fun o G => o = none ∧ G = H2) I2 ⟨rfl, rfl⟩) fun vu s3 ⟨u, H3, I3, pu, eu, e3⟩ => ?_
  subst eu; subst e3
  refine thn (one.run pins s3 σ H3 (fun o G => o = some (-1) ∧ G = H3) I3 ⟨1, rfl, -1, rfl, rfl, rfl⟩) fun vs s4 ⟨o, H4, I4, ps, eo, e4⟩ => ?_
  subst eo; subst e4
  have J5 : Inv X pins σ H4 { s4 with heap := s4.heap.push { cls := .type "slice", data := .fields #[vl, vu, vs] } } := I4.kept (t' := s4.toks) fun b ob z => Heap.get?_push_of_some _ z
  (show wpAny (model X.prog X.w) X.A (subscriptTail e (.Slice none none (some (.UnaryOp .USub (.Constant (.int 1) k p1) p2)) p3) (.ref a) (.ref s4.heap.objs.size)) (EP X pins σ Q) X.xe { s4 with heap := s4.heap.push { cls := .type "slice", data := .fields #[vl, vu, vs] } })
  rcases q with ⟨hx, q⟩ | ⟨hx, q⟩
  · obtain ⟨its, r, ht, hz⟩ := J5.list hx
    have hlen := r.length
    refine tail_any (ops := [.ref a, .ref s4.heap.objs.size]) ht.isList.typeIs (PySem.slot_list_getitem.lookup) (?_) (by with_unfolding_all rfl)
    refine wpAny_getItem_list_slice ht.isList (Heap.IsSliceOf.new _ vl vu vs) pl pu ps (by decide) (?_) (by rw [List.size_toArray]; omega)
    rw [PySem.W.krv_pick]
    refine ⟨.ref _, _, J5.laid (t' := s4.toks) (o := .lst xs.reverse) (fun b ob z => Heap.get?_push_of_some _ z) (Nat.le_refl _) ?_, rfl, q _ (J5.hok.fresh (Nat.le_refl _))⟩
    exact ⟨by rw [List.length_reverse]; exact hz, _, 0, Vals.reverse r, Heap.get?_push_size _ rfl⟩
  · obtain ⟨its, r, ht, hz⟩ := J5.tuple hx
    have hlen := r.length
    refine tail_any (ops := [.ref a, .ref s4.heap.objs.size]) ht.typeIs (PyProof.Rows.slot_tuple_getitem.lookup) (?_) (by with_unfolding_all rfl)
    refine getItem_tuple_rev ht (Heap.IsSliceOf.new _ vl vu vs) pl pu ps (?_) (by rw [List.size_toArray]; omega)
    refine ⟨.ref _, _, J5.laid (t' := s4.toks) (o := .tup xs.reverse) (fun b ob z => Heap.get?_push_of_some _ z) (Nat.le_refl _) ?_, rfl, q _ (J5.hok.fresh (Nat.le_refl _))⟩
    exact ⟨by rw [List.length_reverse]; exact hz, _, Vals.reverse r, IsTup.new _ _⟩
/-- x[::-1] -/
theorem se_rev {cs : CE} {ea : Expr} {k : Nat} {p1 p2 p3 pos : Pos} (ss : SO p C X cs [ea]) : SE p C X (.op .rev cs) (.Subscript ea (.Slice none none (some (.UnaryOp .USub (.Constant (.int 1) k p1) p2)) p3) pos) := by
  intro σ H F fr own m fr1 Q kt f ev kk
  obtain ⟨os, ds, e1, e2, e3⟩ := ev_op ev
  refine we_kt (we_of pe_rev ?_)
  refine ss σ H F fr own os fr1 (fun vs H1 => rRev X.K (vs.getD 0 .non) H1 (fun v H1 => KT X.K H1 → Q v H1)) kt f e1 fun vs H1 kt1 hl ⟨own1, fp, f1, o1, s1, p1⟩ => ?_
  have rn := ops_rn f1 o1 e2
  cases rn with
  | nil => cases hl
  | cons r1 r2 =>
    cases r2 with
    | cons r2 r3 => simp at hl
    | nil =>
      have e3' : revS _ = some m := e3
      unfold revS at e3'
      split at e3'
      · rename_i xs q
        cases q
        cases e3'
        obtain ⟨a, vs', e, h1, h2⟩ := r1.lst
        exact ⟨a, vs', e, .inl ⟨h1, fun q n kt2 => kk _ _ kt2 (post_op kt2 f1 s1 p1 (res_lst h2.reverse n))⟩⟩
      · rename_i xs q
        cases q
        cases e3'
        obtain ⟨a, vs', e, h1, h2, h3⟩ := r1.tup
        exact ⟨a, vs', e, .inr ⟨SqT.of h1, fun q n kt2 => kk _ _ kt2 (post_op kt2 f1 s1 p1 (res_tup h2.reverse n (not_new f1.all_trk n)))⟩⟩
      · cases e3'
/-! ### lists, tuples of ranges -/
theorem rg_all {K : PySem.W.Frag} {H : Hp} {A : AS} (a b : Int) : RpAll K H A (rgV a b) (rngD a b) := by
  have e1 : rgV a b = ((List.range (b - a).toNat).map fun (i : Nat) => a + (i : Int)).map V.int := by unfold rgV; rw [List.map_map]; rfl
  have e2 : rngD a b = ((List.range (b - a).toNat).map fun (i : Nat) => a + (i : Int)).map PyData.int := by unfold rngD; rw [List.map_map]; rfl
  rw [e1, e2]
  exact RpAll.ints _
theorem rg_ok {a b : Int} (h1 : smallI a = true) (h2 : smallI b = true) (h3 : b - a ≤ 1000000) : RgOk a b := by
  unfold smallI at h1 h2
  simp only [Bool.and_eq_true, decide_eq_true_eq] at h1 h2
  exact ⟨h1.1, h1.2, h2.1, h2.2, by omega⟩
theorem s0 : smallI 0 = true := by decide
theorem rng_1 {g : List D → Option M} {mk : Int → M} {o : Op} (ho : opsem o = g) (hg : ∀ ds m, g ds = some m → ∃ j, ds = [.int j] ∧ smallI j = true ∧ j ≤ 1000000 ∧ m = mk j)
    {cs : CE} {ea e : Expr} {Z : Hp → Addr → Int → Int → Hp} (pe : PE X e fun σ H Q => WE X ea σ H fun x H1 => ∃ n, x = .int n ∧ RgOk 0 n ∧ ∀ q, H1 q = none → Q (.ref q) (Z H1 q 0 n))
    (hz : ∀ (H : Hp) (A : AS) (q : Addr) (n : Int), TrkA H A → H q = none → Res p X.K H A (mk n) (.ref q) (Z H q 0 n)) (ss : SO p C X cs [ea]) : SE p C X (.op o cs) e := by
  intro σ H F fr own m fr1 Q kt f ev kk
  obtain ⟨os, ds, e1, e2, e3⟩ := ev_op ev
  rw [ho] at e3
  obtain ⟨j, rfl, g1, g2, rfl⟩ := hg ds m e3
  refine we_kt (we_of pe ?_)
  refine ss σ H F fr own os fr1 (fun vs H1 => ∃ n, vs.getD 0 .non = .int n ∧ RgOk 0 n ∧ ∀ q, H1 q = none → KT X.K (Z H1 q 0 n) → Q (.ref q) (Z H1 q 0 n)) kt f e1 fun vs H1 kt1 hl ⟨own1, fp, f1, o1, s1, p1⟩ => ?_
  have rn := ops_rn f1 o1 e2
  cases rn with
  | cons r1 r2 =>
    cases r2
    exact ⟨j, r1.int, rg_ok s0 g1 (by omega), fun q n kt2 => kk _ _ kt2 (post_op kt2 f1 s1 p1 (hz _ _ _ _ f1.all_trk n))⟩
theorem rng_2 {g : List D → Option M} {mk : Int → Int → M} {o : Op} (ho : opsem o = g) (hg : ∀ ds m, g ds = some m → ∃ i j, ds = [.int i, .int j] ∧ smallI i = true ∧ smallI j = true ∧ j - i ≤ 1000000 ∧ m = mk i j)
    {cs : CE} {ea eb e : Expr} {Z : Hp → Addr → Int → Int → Hp} (pe : PE X e fun σ H Q => WE X ea σ H fun x H1 => WE X eb σ H1 fun y H2 => ∃ i j, x = .int i ∧ y = .int j ∧ RgOk i j ∧ ∀ q, H2 q = none → Q (.ref q) (Z H2 q i j))
    (hz : ∀ (H : Hp) (A : AS) (q : Addr) (i n : Int), TrkA H A → H q = none → Res p X.K H A (mk i n) (.ref q) (Z H q i n)) (ss : SO p C X cs [ea, eb]) : SE p C X (.op o cs) e := by
  intro σ H F fr own m fr1 Q kt f ev kk
  obtain ⟨os, ds, e1, e2, e3⟩ := ev_op ev
  rw [ho] at e3
  obtain ⟨i, j, rfl, g0, g1, g2, rfl⟩ := hg ds m e3
  refine we_kt (we_of pe ?_)
  refine ss σ H F fr own os fr1 (fun vs H1 => ∃ i j, vs.getD 0 .non = .int i ∧ vs.getD 1 .non = .int j ∧ RgOk i j ∧ ∀ q, H1 q = none → KT X.K (Z H1 q i j) → Q (.ref q) (Z H1 q i j)) kt f e1 fun vs H1 kt1 hl ⟨own1, fp, f1, o1, s1, p1⟩ => ?_
  have rn := ops_rn f1 o1 e2
  cases rn with
  | cons r1 r2 =>
    cases r2 with
    | cons r2 r3 =>
      cases r3
      exact ⟨i, j, r1.int, r2.int, rg_ok g0 g1 g2, fun q n kt2 => kk _ _ kt2 (post_op kt2 f1 s1 p1 (hz _ _ _ _ _ f1.all_trk n))⟩
theorem r1S_ok {ds : List D} {m : M} (h : rng1S ds = some m) : ∃ j, ds = [.int j] ∧ smallI j = true ∧ j ≤ 1000000 ∧ m = .lst (rngD 0 j) := by
  unfold rng1S at h
  split at h
  · split at h
    · rename_i g; cases h; obtain ⟨g1, g2⟩ := Bool.and_eq_true_iff.mp g; exact ⟨_, rfl, g1, of_decide_eq_true g2, rfl⟩
    · cases h
  · cases h
theorem t1S_ok {ds : List D} {m : M} (h : trng1S ds = some m) : ∃ j, ds = [.int j] ∧ smallI j = true ∧ j ≤ 1000000 ∧ m = .d (.tuple (rngD 0 j)) := by
  unfold trng1S at h
  split at h
  · split at h
    · rename_i g; cases h; obtain ⟨g1, g2⟩ := Bool.and_eq_true_iff.mp g; exact ⟨_, rfl, g1, of_decide_eq_true g2, rfl⟩
    · cases h
  · cases h
theorem r2S_ok {ds : List D} {m : M} (h : rng2S ds = some m) : ∃ i j, ds = [.int i, .int j] ∧ smallI i = true ∧ smallI j = true ∧ j - i ≤ 1000000 ∧ m = .lst (rngD i j) := by
  unfold rng2S at h
  split at h
  · split at h
    · rename_i g; cases h; obtain ⟨g1, g2⟩ := Bool.and_eq_true_iff.mp g; obtain ⟨g0, g1⟩ := Bool.and_eq_true_iff.mp g1; exact ⟨_, _, rfl, g0, g1, of_decide_eq_true g2, rfl⟩
    · cases h
  · cases h
theorem t2S_ok {ds : List D} {m : M} (h : trng2S ds = some m) : ∃ i j, ds = [.int i, .int j] ∧ smallI i = true ∧ smallI j = true ∧ j - i ≤ 1000000 ∧ m = .d (.tuple (rngD i j)) := by
  unfold trng2S at h
  split at h
  · split at h
    · rename_i g; cases h; obtain ⟨g1, g2⟩ := Bool.and_eq_true_iff.mp g; obtain ⟨g0, g1⟩ := Bool.and_eq_true_iff.mp g1; exact ⟨_, _, rfl, g0, g1, of_decide_eq_true g2, rfl⟩
    · cases h
  · cases h
theorem star1 {e : Expr} {env : Env} (ok : okE e = true) : starEach [e] env = (false, eval e env) :: starEach [] env := star_ok ok
theorem se_lrng1 (h : XOk p N sc top X) {cs : CE} {ea : Expr} {p1 p2 pos pos2 : Pos} (g1 : glB sc "list" = true) (g2 : glB sc "range" = true) (ok : okE ea = true) (ss : SO p C X cs [ea]) : SE p C X (.op .rng1 cs) (.Call (.Name "list" p1) [.Call (.Name "range" p2) [ea] [] pos2] [] pos) :=
  rng_1 (g := rng1S) (mk := fun j => .lst (rngD 0 j)) rfl (fun _ _ => r1S_ok) (Z := fun H q a b => upd H q (.lst (rgV a b)))
    (pe_imp (pe_listRg h.calm (gl_of h g1) (h.blt _ (by decide)) (prg_1 (gl_of h g2) (h.blt _ (by decide)) pe_we (star1 ok)) (star1 rfl)) fun σ H Q q => we_mono q fun v H1 _ ⟨n, e, r, z⟩ => ⟨n, e, r, z⟩) (fun H A q n tr hn => res_lst (rg_all 0 n) hn) ss
theorem se_trng1 (h : XOk p N sc top X) {cs : CE} {ea : Expr} {p1 p2 pos pos2 : Pos} (g1 : glB sc "tuple" = true) (g2 : glB sc "range" = true) (ok : okE ea = true) (ss : SO p C X cs [ea]) : SE p C X (.op .trng1 cs) (.Call (.Name "tuple" p1) [.Call (.Name "range" p2) [ea] [] pos2] [] pos) :=
  rng_1 (g := trng1S) (mk := fun j => .d (.tuple (rngD 0 j))) rfl (fun _ _ => t1S_ok) (Z := fun H q a b => upd H q (.tup (rgV a b)))
    (pe_imp (pe_tupRg h.calm (gl_of h g1) (h.blt _ (by decide)) (prg_1 (gl_of h g2) (h.blt _ (by decide)) pe_we (star1 ok)) (star1 rfl)) fun σ H Q q => we_mono q fun v H1 _ ⟨n, e, r, z⟩ => ⟨n, e, r, z⟩) (fun H A q n tr hn => res_tup (rg_all 0 n) hn (not_new tr hn)) ss
theorem se_lrng2 (h : XOk p N sc top X) {cs : CE} {ea eb : Expr} {p1 p2 pos pos2 : Pos} (g1 : glB sc "list" = true) (g2 : glB sc "range" = true) (ok : okE ea = true) (ok2 : okE eb = true) (ss : SO p C X cs [ea, eb]) : SE p C X (.op .rng2 cs) (.Call (.Name "list" p1) [.Call (.Name "range" p2) [ea, eb] [] pos2] [] pos) :=
  rng_2 (g := rng2S) (mk := fun i j => .lst (rngD i j)) rfl (fun _ _ => r2S_ok) (Z := fun H q a b => upd H q (.lst (rgV a b)))
    (pe_imp (pe_listRg h.calm (gl_of h g1) (h.blt _ (by decide)) (prg_2 (gl_of h g2) (h.blt _ (by decide)) pe_we pe_we (star_ok ok) (star1 ok2) (pl_ok (by rw [List.all_cons, ok2]; rfl))) (star1 rfl)) fun σ H Q q => we_mono q fun v H1 _ q => we_mono q fun y H2 _ ⟨i, j, e, e', r, z⟩ => ⟨i, j, e, e', r, z⟩) (fun H A q i n tr hn => res_lst (rg_all i n) hn) ss
theorem se_trng2 (h : XOk p N sc top X) {cs : CE} {ea eb : Expr} {p1 p2 pos pos2 : Pos} (g1 : glB sc "tuple" = true) (g2 : glB sc "range" = true) (ok : okE ea = true) (ok2 : okE eb = true) (ss : SO p C X cs [ea, eb]) : SE p C X (.op .trng2 cs) (.Call (.Name "tuple" p1) [.Call (.Name "range" p2) [ea, eb] [] pos2] [] pos) :=
  rng_2 (g := trng2S) (mk := fun i j => .d (.tuple (rngD i j))) rfl (fun _ _ => t2S_ok) (Z := fun H q a b => upd H q (.tup (rgV a b)))
    (pe_imp (pe_tupRg h.calm (gl_of h g1) (h.blt _ (by decide)) (prg_2 (gl_of h g2) (h.blt _ (by decide)) pe_we pe_we (star_ok ok) (star1 ok2) (pl_ok (by rw [List.all_cons, ok2]; rfl))) (star1 rfl)) fun σ H Q q => we_mono q fun v H1 _ q => we_mono q fun y H2 _ ⟨i, j, e, e', r, z⟩ => ⟨i, j, e, e', r, z⟩) (fun H A q i n tr hn => res_tup (rg_all i n) hn (not_new tr hn)) ss
/-- {k: v} -/
theorem se_dict1 {ck cv : CE} {ek ev0 : Expr} {pos : Pos} (sk : SE p C X ck ek) (sv : SE p C X cv ev0) : SE p C X (.dict1 ck cv) (.Dict [some ek] [ev0] pos) := by
  intro σ H F fr own m fr1 Q kt f ev kk
  obtain ⟨⟨ma, fr2⟩, q1, q2⟩ := bind_ok (show ((evE C ck fr).bind fun (a, fr) => (evE C cv fr).bind fun (b, fr) => match a, b with
    | .d a, .d b => if keyKind a = 1 then R.ok (M.dic [(a, b)], fr) else .stuck
    | _, _ => .stuck) = .ok (m, fr1) from ev)
  obtain ⟨⟨mb, fr3⟩, q3, q4⟩ := bind_ok q2
  simp only at q4
  split at q4
  · rename_i a b
    split at q4
    · rename_i hk1
      cases q4
      obtain ⟨key, hkey⟩ := keyD_of hk1
      have pps : PPs X pos [some ek] [ev0] [(WE X ek, WE X ev0)] := pps_cons pe_we pe_we pps_nil
      refine we_kt (we_of (pe_disp pps rfl rfl (by simp) (show 1 ≤ 15 by decide)) ?_)
      intro d hd
      show WE X ek σ (upd H d (.dK [])) _
      intro pins s I
      have kt2 : KT X.K (upd H d (.dK [])) := kt_of I
      have f' : FR p X.K (or_ F fun b => b = d) σ (upd H d (.dK [])) fr own := f.grow kt2 (grow_new hd) (fun b z => by rw [z]; exact hd) fun b z => by rw [z]; exact ⟨_, upd_same, fun xs z => by cases z⟩
      refine sk σ _ _ fr own _ fr2 _ kt2 f' q1 (fun v1 H1 kt1 po1 => ?_) pins s I
      obtain ⟨own1, f1, r1, s1⟩ := post_d po1
      show WE X ev0 σ H1 _
      refine sv σ H1 _ fr2 own1 _ _ _ kt1 f1 q3 fun v2 H2 kt3 po2 => ?_
      obtain ⟨own2, f2, r2, s2⟩ := post_d po2
      have st := s1.trans s2
      have hd2 : H2 d = some (.dK []) := st.1 d _ upd_same fun ⟨j, z⟩ => f'.forn j d z (.inr rfl)
      have r1' := r1.on kt3 f2 s2
      have ek1 : v1 = kV key := r1'.key hkey
      refine ⟨hd2, [(key, v2)], by rw [ek1]; rfl, by simp, fun kt4 => ?_⟩
      have stp : ∀ o, Step H2 (fun b => b = d) (upd H2 d o) noA := fun o => ⟨fun b u e n => by rw [upd_ne n]; exact e, fun _ z => z.elim⟩
      have tr : ∀ o, (∀ xs, o ≠ .tup xs) → TrkA (upd H2 d o) (or_ F fun b => b = d) := fun o ho b z => by
        by_cases hb : b = d
        · subst hb; exact ⟨_, upd_same, ho⟩
        · obtain ⟨u, e, n⟩ := f2.trk b z
          exact ⟨u, by rw [upd_ne hb]; exact e, n⟩
      have em : mergeK [] [(key, v2)] = [(key, v2)] := rfl
      rw [em] at kt4 ⊢
      have f3 : FR p X.K (or_ F fun b => b = d) σ (upd H2 d (.dK [(key, v2)])) _ own2 := f2.stepW kt4 (stp _) (fun b z => .inr z) (fun b z => .inl z) (tr _ fun xs z => by cases z) (fun b z => z.elim)
      have r3 : Rp X.K (upd H2 d (.dK [(key, v2)])) (or_ (or_ F fun b => b = d) (Own own2)) v2 b := r2.step (W := fun b => b = d) (W' := noA) (fun _ _ _ z => z) (stp _) (fun b z => .inl (.inr z)) fun b z => .inl z
      refine kk _ _ kt4 ⟨own2, fun b => b = d, f3, .b (.dicK upd_same (.cons hkey r3 .nil) fun _ => Iff.rfl), ?_, fun z => by cases z⟩
      have t1 : Step H (Own own) (upd H d (.dK [])) (or_ (Own own) fun b => b = d) := ((step_new hd).frame (Own own)).sub (fun b z => z.elim False.elim id) fun b z => z.elim .inr .inl
      have t2 : Step (upd H d (.dK [])) (or_ (Own own) fun b => b = d) H2 (or_ (Own own2) fun b => b = d) := st.frame _
      have t3 : Step H2 (or_ (Own own2) fun b => b = d) (upd H2 d (.dK [(key, v2)])) (or_ (Own own2) fun b => b = d) := ((stp _).frame (or_ (Own own2) fun b => b = d)).sub (fun b z => z.elim .inr id) fun b z => .inr z
      exact (t1.trans t2).trans t3
    · cases q4
  · cases q4
end
end Mn
/-! Mn, part Rw: list(reversed(x)). -/
namespace Mn
open PySem L2 PySem.Spec
open PyProof.Rows hiding St
section
variable {prog : Program} {w : World} {A : Around} {s : Shared} {E : Value → Shared → Prop}
theorem extend_rev {R : Result → Shared → Prop} {it l S : Addr} {items : Array Value} {c₀ : Nat} {res : Value} (hh : A.handled = none) (hit : s.heap.IsRevIter it l ((items.size : Int) - 1)) (hl : s.heap.IsList l items) (hne : l ≠ it) (hn : items.size ≤ sizeLine)
    (hS : s.heap.get? S = some { cls := .type "list", data := .seq #[] c₀ }) (hSi : S ≠ it) (hSl : S ≠ l)
    (hR : ∀ h' tk acc' c', (∀ b o, b ≠ S → b ≠ it → s.heap.get? b = some o → h'.get? b = some o) → h'.get? S = some { cls := .type "list", dict := none, data := .seq acc' c', slots := #[] } →
      ItemsOf (fun i v => items[items.size - 1 - i]? = some v) acc' items.size → R (.ok (.ret res)) { s with heap := h', toks := tk }) :
    wpAny (model prog w) (A.in1) (Builtin.List.listExtendWith (.ref S) (.ref it) res)
      (fun fi s' => match fi with | .done f => R (.ok f) s' | .again c' => c'.quiet = true ∧ codeAny (model prog w) A c' R s') (fun e s' => R (.error e) s') s := by
  have W := ((Walks.listRev (prog := prog) (w := w) (A := A.in1) hh it l hne items).toS)
  have off : S ∉ [it, l] := by simp only [List.mem_cons, List.not_mem_nil, or_false, not_or]; exact ⟨hSi, hSl⟩
  have hT : s.TypeIs (.ref it) "list_reverseiterator" := hit.typeIs
  have h1 : Builtin.List.listSameRef (.ref S) (.ref it) = false := by simp [Builtin.List.listSameRef, hSi]
  (unfold Builtin.List.listExtendWith)
  refine (wpAny_bind (wpAny_typeOf hT ?_))
  (rw [if_neg (by rw [h1]; decide)])
  refine wpAny_bind (wpAny_pyIter_revIter hit ?_)
  refine (wpAny_bind (wpAny_holding ?_))
  (unfold Builtin.List.listLengthHint)
  refine wpAny_bind (wpAny_specialOf hT RT.nolen_lri ?_)
  (show wpAny _ A.in1 (specialOf (Value.ref it) (Str.ofString "__length_hint__") >>= _) _ _ _)
  refine wpAny_bind (wpAny_specialOf hT RT.hint_lri ?_)
  generalize hid : ("list_reverseiterator.__length_hint__" : String) = idh
  wp_delta
  rw [show splitId idh = some ("list_reverseiterator", "__length_hint__") from by subst hid; decide +kernel]
  subst hid
  refine (wpAny_bind (wpAny_isInstance (b := true) hT (by rw [isSubtype_type]; kernel_rfl) ?_))
  refine wpAny_pure ?_
  rw [if_neg (by decide)]
  have z0 : ((items.size : Nat) : Int) - 1 - ((0 : Nat) : Int) = (items.size : Int) - 1 := by omega
  refine wpAny_pure ⟨plainId_quiet F.plain_extend_loop _, codeAny_extend_loopS W hn S off res items.size 0 _ _ _ rfl (Nat.zero_le _) ⟨Nat.zero_le _, by rw [z0]; exact hit, hl⟩ hS (ItemsOf.nil _) fun s' acc' c' hm hS' hacc => ?_⟩
  rw [Moved.eq_with hm]
  refine hR s'.heap s'.toks acc' c' (fun b o hb hb2 e => hm.heap b o (fun hmem => ?_) e) hS' hacc
  rcases (List.mem_cons.mp hmem) with e' | hmem
  · exact hb e'
  · exact hb2 (List.mem_singleton.mp hmem)
theorem init_rev {R : Result → Shared → Prop} {it l S : Addr} {items : Array Value} (hh : A.handled = none) (hit : s.heap.IsRevIter it l ((items.size : Int) - 1)) (hl : s.heap.IsList l items) (hne : l ≠ it) (hn : items.size ≤ sizeLine)
    (hS : s.heap.get? S = some { cls := .type "list", data := .seq #[] }) (hSi : S ≠ it) (hSl : S ≠ l)
    (hR : ∀ h' tk acc' c', (∀ b o, b ≠ S → b ≠ it → s.heap.get? b = some o → h'.get? b = some o) → h'.get? S = some { cls := .type "list", dict := none, data := .seq acc' c', slots := #[] } →
      ItemsOf (fun i v => items[items.size - 1 - i]? = some v) acc' items.size → R (.ok (.ret .none)) { s with heap := h', toks := tk }) :
    wpAny (model prog w) (A.in1) (Builtin.«list.__init__» ⟨[.ref S, .ref it], []⟩)
      (fun fi s' => match fi with | .done f => R (.ok f) s' | .again c' => c'.quiet = true ∧ codeAny (model prog w) A c' R s') (fun e s' => R (.error e) s') s := by
  show wpAny _ _ (do let old ← Builtin.List.listItems (.ref S); Builtin.List.listUpdate (.ref S) (fun _ => #[]); letGo old.toList.reverse; Builtin.List.listExtendWith (.ref S) (.ref it) .none) _ _ s
  refine wpAny_bind ?_
  unfold Builtin.List.listItems
  refine (wpAny_bind (wpAny_seqItems hS rfl (wpAny_pure ?_)))
  show wpAny _ _ (updateSeq S (fun _ => #[]) >>= fun _ => letGo (#[] : Array Value).toList.reverse >>= fun _ => Builtin.List.listExtendWith (.ref S) (.ref it) .none) _ _ s
  refine (wpAny_bind (wpAny_updateSeq hS rfl ?_))
  have hS2 := (Heap.get?_update_self (Obj.mapSeq (fun _ => (#[] : Array Value))) hS rfl)
  have oth : ∀ (b : Addr) o, b ≠ S → s.heap.get? b = some o → (s.heap.update S (Obj.mapSeq (fun _ => (#[] : Array Value)))).get? b = some o :=
    fun b o hb e => ((Heap.get?_update_other _ _ (Ne.symm hb))).trans e
  refine (wpAny_bind (wpAny_letGo ?_))
  refine extend_rev hh (hit.at fun o e => oth it o (Ne.symm hSi) e) (hl.at fun o e => oth l o (Ne.symm hSl) e) hne hn hS2 hSi hSl fun h' tk acc' c' hk hS' hacc => ?_
  exact hR h' tk acc' c' (fun b o hb hb2 e => hk b o hb hb2 (oth b o hb e)) hS' hacc
theorem call_list_rev {it l : Addr} {items : Array Value} {Q : Value → Shared → Prop} (hh : A.handled = none) (hit : s.heap.IsRevIter it l ((items.size : Int) - 1)) (hl : s.heap.IsList l items) (hne : l ≠ it) (hn : items.size ≤ sizeLine)
    (hQ : ∀ h' tk acc' c', (∀ b o, b ≠ it → s.heap.get? b = some o → h'.get? b = some o) → h'.get? s.heap.objs.size = some { cls := .type "list", dict := none, data := .seq acc' c', slots := #[] } →
      ItemsOf (fun i v => items[items.size - 1 - i]? = some v) acc' items.size → Q (.ref s.heap.objs.size) { s with heap := h', toks := tk }) :
    (wpAny (model prog w) A (call (.type "list") [.ref it]) Q E s) := by
  obtain ⟨oi, hoi, _⟩ := id hit
  obtain ⟨ol, hol, _⟩ := id hl
  have hSi : s.heap.objs.size ≠ it := (Nat.ne_of_gt (Heap.lt_size hoi))
  have hSl : s.heap.objs.size ≠ l := (Nat.ne_of_gt (Heap.lt_size hol))
  refine callType_codes (Q₁ := fun obj t1 => obj = .ref s.heap.objs.size ∧ t1 = { s with heap := s.heap.push { cls := .type "list", data := .seq #[] } }) F.called_list (F.typeCall_list_1 _) F.entry_list_init
    (code_list_new _ ⟨rfl, rfl⟩) fun obj t1 ht1 => ?_
  obtain ⟨rfl, rfl⟩ := ht1
  have hS : (s.heap.push { cls := .type "list", data := .seq #[] }).get? s.heap.objs.size = some { cls := .type "list", data := .seq #[] } := (Heap.get?_push_size _ rfl)
  refine ⟨⟨_, hS, rfl⟩, F.args_list_init_2 _ _, init_rev (A := A.in1) (s := { s with heap := s.heap.push { cls := .type "list", data := .seq #[] } }) hh (hit.at fun o e => Heap.get?_push_of_some _ e) (hl.push _) hne hn hS hSi hSl fun h' tk acc' c' hk hS' hacc => ?_⟩
  exact ⟨rfl, hQ h' tk acc' c' (fun b o hb e => hk b o (Nat.ne_of_lt (Heap.lt_size e)) hb (Heap.get?_push_of_some _ e)) hS' hacc⟩
end
section
variable {p : PC} {N : List Str} {sc : Scope} {top : Bool} {X : Cx} {C : Ctx}
theorem items_rev {its : List Value} {acc : Array Value} (h : ItemsOf (fun i v => its.toArray[its.toArray.size - 1 - i]? = some v) acc its.toArray.size) : acc.toList = its.reverse := by
  obtain ⟨hz, hp⟩ := h
  have hz' : acc.size = its.length := by rw [hz, List.size_toArray]
  refine List.ext_getElem? fun i => ?_
  rw [Array.getElem?_toList]
  by_cases hi : i < its.length
  · have hlt : i < acc.size := by omega
    have q : its.toArray[its.toArray.size - 1 - i]? = some acc[i] := hp i acc[i] (Array.getElem?_eq_getElem hlt)
    rw [List.getElem?_toArray, List.size_toArray] at q
    rw [Array.getElem?_eq_getElem hlt, List.getElem?_reverse hi, q]
  · rw [Array.getElem?_eq_none (by omega), List.getElem?_eq_none (by rw [List.length_reverse]; omega)]
theorem pe_lrev {ea : Expr} {p1 p2 pos pos2 : Pos} (hc : X.calm = true) (g1 : Gl X "list") (n1 : X.mg "list" = none) (g2 : Gl X "reversed") (n2 : X.mg "reversed" = none) (ok : okE ea = true) :
    PE X (.Call (.Name "list" p1) [.Call (.Name "reversed" p2) [ea] [] pos2] [] pos) (fun σ H Q => WE X ea σ H fun x H1 => ∃ a xs, x = .ref a ∧ SqL X.K H1 a xs ∧ ∀ q, H1 q = none → Q (.ref q) (upd H1 q (.lst xs.reverse))) := by
  refine ⟨?_⟩; intro pins s σ H Q I h
  refine Call_ (ld_blt I g1 n1 boot_list (PyProof.Rows.callWith_type1 (args_cons (Call_ (ld_blt I g2 n2 PyProof.Rows.boot_reversed (PyProof.Rows.callWith_type1 (args_cons (thn (h pins s I) fun u s1 ⟨v, H1, I1, r1, q1⟩ => args_nil ?_) (star1 ok)) (star1 ok) rfl))) (star1 rfl)) (star1 rfl) rfl))
  obtain ⟨a, xs, ev, hq, q⟩ := (q1)
  subst ev
  obtain rfl : u = Value.ref a := (r1)
  obtain ⟨its, rv, pl, hz⟩ := I1.list hq
  refine call_reversed_list pl.isList (args_nil ?_)
  have J2 : Inv X pins σ H1 { s1 with heap := s1.heap.push (revObj a ((its.toArray.size : Int) - 1)) } := I1.kept (t' := s1.toks) fun b o e => Heap.get?_push_of_some _ e
  obtain ⟨f0, f1, f2, f3, f4, f5⟩ := (I1.fpOk (H' := H1) (b := s1.heap.objs.size) (Nat.le_refl _) (I1.hok.fresh (Nat.le_refl _)))
  have isl := pl.isList
  obtain ⟨ol, hol, _⟩ := id isl
  have apart : a ≠ s1.heap.objs.size := Nat.ne_of_lt (Heap.lt_size hol)
  have few : its.toArray.size ≤ sizeLine := by rw [List.size_toArray, ← rv.length]; exact hz
  refine call_list_rev (s := { s1 with heap := s1.heap.push (revObj a ((its.toArray.size : Int) - 1)) }) (I1.ok.hd hc) ⟨_, Heap.get?_push_size _ rfl, rfl, rfl⟩ (isl.push _) apart few fun h' tk acc c' hk hS hi => ?_
  have fresh : H1 (s1.heap.push (revObj a ((its.toArray.size : Int) - 1))).objs.size = none := J2.hok.fresh (Nat.le_refl _)
  generalize hSz : (s1.heap.push (revObj a ((its.toArray.size : Int) - 1))).objs.size = S at fresh hS ⊢
  have nit : ∀ {b : Addr} {u : HO}, H1 b = some u → b ≠ s1.heap.objs.size := fun {b u} e z => by rw [z, f0] at e; cases e
  have J3 : Inv X pins σ (upd H1 S (.lst xs.reverse)) { s1 with heap := h', toks := tk } := by
    refine Inv.step (s := { s1 with heap := s1.heap.push (revObj a ((its.toArray.size : Int) - 1)) }) J2 (h' := h') (g' := s1.gens) (d' := s1.drawn) (t' := tk) (ch := [s1.heap.objs.size]) (fun b hb => ?_) (fun b o _ _ hc e _ => hk b o (fun z => hc (by simp [z])) e) (fun b o _ _ hc e _ => ⟨o.slots, hk b o (fun z => hc (by simp [z])) e⟩) (fun b o hc e n => ?_)
      (fun b o hc e => ⟨o, hk b o (fun z => hc (by simp [z])) e⟩) (fun b ys e => by rw [upd_ne (ne_of_none e fresh)]; exact e) (fun b o u e => by rw [upd_ne (ne_of_none e fresh)]; exact e) (fun b qs e => ⟨#[], by rw [upd_ne (ne_of_none e fresh), e]; simp⟩) (fun m hm => ?_) (fun b u e => ?_) J2.bare
    · rw [List.mem_singleton] at hb
      subst hb
      exact ⟨f3, f1, f4, f5⟩
    · rw [upd_ne (by rw [← hSz]; exact Nat.ne_of_lt (Heap.lt_size e))]; exact n
    · obtain ⟨o, es, ep, ho, r⟩ := (hm)
      exact ⟨o, es, ep, hk _ o (Ne.symm f1) ho, r⟩
    · by_cases hb : b = S
      · subst hb
        rw [upd_same] at e
        cases e
        refine ⟨by rw [List.length_reverse]; exact hz, acc.toList, c', (by rw [items_rev hi]; exact Vals.reverse rv), ?_⟩
        rw [Array.toArray_toList]; exact hS
      · rw [upd_ne hb] at e
        refine (J2.hok b u e).stay (fun c v hc z => hk c v ?_ z) (fun c z => by rw [upd_ne (ne_of_none z fresh)]; exact z) fun c ys z => by rw [upd_ne (ne_of_none z fresh)]; exact z
        rcases hc with rfl | hc
        · exact nit e
        · exact nit hc
  exact ⟨.ref S, _, J3, rfl, q S fresh⟩
theorem se_lrev {cs : CE} {ea : Expr} {p1 p2 pos pos2 : Pos} (hc : X.calm = true) (g1 : Gl X "list") (n1 : X.mg "list" = none) (g2 : Gl X "reversed") (n2 : X.mg "reversed" = none) (ok : okE ea = true) (ss : SO p C X cs [ea]) :
    SE p C X (.op .lrev cs) (.Call (.Name "list" p1) [.Call (.Name "reversed" p2) [ea] [] pos2] [] pos) := by
  intro σ H F fr own m fr1 Q kt f ev kk
  obtain ⟨os, ds, e1, e2, e3⟩ := ev_op ev
  refine we_kt (we_of (pe_lrev hc g1 n1 g2 n2 ok) ?_)
  refine ss σ H F fr own os fr1 (fun vs H1 => ∃ a xs, vs.getD 0 .non = .ref a ∧ SqL X.K H1 a xs ∧ ∀ q, H1 q = none → KT X.K (upd H1 q (.lst xs.reverse)) → Q (.ref q) (upd H1 q (.lst xs.reverse))) kt f e1 fun vs H1 kt1 hl ⟨own1, fp, f1, o1, s1, p1⟩ => ?_
  have rn := ops_rn f1 o1 e2
  cases rn with
  | nil => cases hl
  | cons r1 r2 =>
    cases r2 with
    | cons r2 r3 => simp at hl
    | nil =>
      have e3' : lrevS _ = some m := e3
      unfold lrevS at e3'
      split at e3'
      · rename_i xs q
        cases q
        cases e3'
        obtain ⟨a, vs', e, h1, h2⟩ := r1.lst
        exact ⟨a, vs', e, h1, fun q n kt2 => kk _ _ kt2 (post_op kt2 f1 s1 p1 (res_lst h2.reverse n))⟩
      · cases e3'
end
end Mn
/-! Mn, part Rt: set(x) of a tuple of tuples of ints (TupSets does it for a list: the walk differs). -/
namespace Mn
open PySem L2 PySem.Spec PyProof
open PyProof.Rows hiding St
section
variable {P : Program} {w : World} {A : Around} {E : Value → Shared → Prop} {s : Shared}
/-- the set as it is made -/
abbrev nset (w : World) : Obj := { cls := .type "set", dict := none, data := .set #[] 0 (.fresh 0 0 (!w.params.followText "set-order")) }
theorem new_none {h : Heap} {b : Addr} (hb : h.objs.size ≤ b) : h.get? b = none := by
  cases q : h.get? b with
  | none => rfl
  | some o =>
    exact absurd (Nat.lt_of_lt_of_le (Heap.lt_size q) hb) (Nat.lt_irrefl _)
theorem ref_at {items : Array Value} {ks : List (Addr × List Int)} (hit : items.toList = ks.map fun p => Value.ref p.1) (i : Nat) (v : Value) (hv : items[i]? = some v) : ∃ p, ks[i]? = some p ∧ v = .ref p.1 := by
  have q : items.toList[i]? = some v := by simpa using hv
  rw [hit] at q
  simp only [List.getElem?_map, Option.map_eq_some_iff] at q
  obtain ⟨p, h1, h2⟩ := q
  exact ⟨p, h1, h2.symm⟩
/-- the body of __init__ on the new set -/
theorem init_tt {l : Addr} {items : Array Value} (ks : List (Addr × List Int)) {Q : Value → Shared → Prop} (hh : A.handled = none) (hl : s.heap.IsTuple l items) (hit : items.toList = ks.map fun p => Value.ref p.1)
    (hk : ∀ p ∈ ks, IsT P w s.heap p.2 p.1) (hfew : ks.length < 64) (hu : A.units + 2 < cLine)
    (h : ∀ (h' : Heap) (tk : Nat) L es ep t, SetTR P w h' s.heap.objs.size L es ep t → Got ks ks.length L → (∀ b o, s.heap.get? b = some o → h'.get? b = some o) → Q .none { s with heap := h', toks := tk }) :
    wpAny (model P w) A.in1 (Builtin.«set.__init__» ⟨[.ref s.heap.objs.size, .ref l], []⟩) (fun fin s' => match fin with
      | .done f => wants Q E (.ok f) s'
      | .again c' => c'.quiet = true ∧ codeAny (model P w) A c' (wants Q E) s') (fun e s' => wants Q E (.error e) s') { s with heap := s.heap.push (nset w) } := by
  have hisz : items.size = ks.length := by
    have q := congrArg List.length hit
    simpa using q
  have hS : (s.heap.push (nset w)).get? s.heap.objs.size = some (nset w) := Heap.get?_push_size _ rfl
  obtain ⟨ol, hol, hcl, nl, hdl⟩ := id hl
  obtain ⟨ocls, odict, odata, oslots⟩ := ol
  dsimp only at hcl hdl
  subst hcl hdl
  have hol' : (s.heap.push (nset w)).get? l = some { cls := .type "tuple", dict := odict, data := .seq items nl, slots := oslots } := Heap.get?_push_of_some _ hol
  have a1 := F.sub_tuple_set
  have a2 := F.sub_tuple_frozenset
  have a3 : (Value.type "tuple" == Value.type "dict") = false := by decide
  have hl1 : (s.heap.push (nset w)).IsTuple l items := ⟨_, hol', rfl, nl, rfl⟩
  unfold Builtin.«set.__init__» noKeywords Builtin.Frozenset.updateFrom
  generalize hPI : pyIter = PI
  wp_walk
  subst hPI
  refine wpAny_pyIter_tuple hl1 (wpAny_bind (wpAny_runValue ?_))
  have hlt : l < s.heap.objs.size := Heap.lt_size hol
  have hsz : (s.heap.push (nset w)).objs.size = s.heap.objs.size + 1 := Heap.size_push ..
  have n1 : l ≠ (s.heap.push (nset w)).objs.size := fun z => absurd (Nat.lt_succ_of_lt hlt) (by rw [z, hsz]; exact Nat.lt_irrefl _)
  have n2 : s.heap.objs.size ∉ [(s.heap.push (nset w)).objs.size, l] := by
    simp only [List.mem_cons, List.not_mem_nil, or_false, not_or, hsz]
    exact ⟨Nat.ne_of_lt (Nat.lt_succ_self _), Nat.ne_of_gt hlt⟩
  have hh2 : A.in1.in1.handled = none := by simp [hh]
  refine set_update_tups (A := A.in1) ((Walks.tuple hh2 _ l n1 items).toS) s.heap.objs.size n2 ks hisz hfew (ref_at hit) s.heap hk (new_none (Nat.le_refl _))
    (fun b hb => new_none (by
      rw [List.mem_singleton.mp hb, hsz]
      exact Nat.le_succ _)) hu (items.size - 0) 0 _ (by omega) (Nat.zero_le _)
    ⟨⟨_, Heap.get?_push_size _ rfl, rfl, rfl⟩, hl1.push _⟩ ?_ ?_ ?_
  · intro b o e
    exact Heap.get?_push_of_some _ (Heap.get?_push_of_some _ e)
  · have z : ((s.heap.push (nset w)).push { cls := .type "tuple_iterator", data := .fields #[.ref l, .int 0 0] }).get? s.heap.objs.size = some (nset w) := Heap.get?_push_of_some _ hS
    exact ⟨[], #[], 0, _, setTR_fresh z, Got.zero ks⟩
  intro s' L es ep t hm r g k
  obtain ⟨h', g', d', tk', os'⟩ := s'
  have z1 : g' = s.gens := hm.gens
  have z2 : d' = s.drawn := hm.drawn
  have z3 : os' = s.os := hm.os
  subst z1 z2 z3
  rw [hisz] at g
  show wpAny _ _ _ _ _ _
  refine wpAny_pure ?_
  show wpAny _ _ (ret Value.none) _ _ _
  exact wpAny_pure (h _ _ _ _ _ _ r g k)
theorem call_ttups {l : Addr} {items : Array Value} (ks : List (Addr × List Int)) {Q : Value → Shared → Prop} (hh : A.handled = none) (hl : s.heap.IsTuple l items) (hit : items.toList = ks.map fun p => Value.ref p.1)
    (hk : ∀ p ∈ ks, IsT P w s.heap p.2 p.1) (hfew : ks.length < 64) (hu : A.units + 3 < cLine)
    (h : ∀ (h' : Heap) (tk : Nat) L es ep t, SetTR P w h' s.heap.objs.size L es ep t → Got ks ks.length L → (∀ b o, s.heap.get? b = some o → h'.get? b = some o) → Q (.ref s.heap.objs.size) { s with heap := h', toks := tk }) :
    wpAny (model P w) A (call (.type "set") [.ref l]) Q E s := by
  obtain ⟨c, tl, b1⟩ := F.called_set.mro
  have b2 := F.called_set.made
  have b3 := F.called_set.sub
  have b4 := F.called_set.notType
  have b5 := F.called_set.canCreate
  have b6 := F.typeCall_set_1 (.ref l)
  refine wpAny_call (codeAny_of_tree ?_)
  show wpAny _ _ (callAny (.type "set") _) _ _ _
  refine wpAny_pure ⟨Code.quiet_builtin _ (by decide +kernel), codeAny_builtin F.entry_type_call ?_⟩
  rw [Around.under_plain (weight_type_call_type "set" [.ref l] []) rfl]
  repeat (any_goals (first | assumption | wp_step))
  refine codeAny_mono (code_set_led1 (.ref l) (E := E) (Q₁ := fun obj s₁ => obj = .ref s.heap.objs.size ∧ s₁ = { s with heap := s.heap.push (nset w) }) ⟨rfl, rfl⟩) fun r s₁ hr => ?_
  rcases r with e | fl
  · exact hr
  · cases fl with
    | ret obj =>
      obtain ⟨rfl, rfl⟩ := hr
      have hT : Shared.TypeIs { s with heap := s.heap.push (nset w) } (.ref s.heap.objs.size) "set" := ⟨_, Heap.get?_push_size _ rfl, rfl⟩
      have c1 := F.called_set.init.lookup
      have c2 := F.called_set.init.bind (.ref s.heap.objs.size)
      repeat (any_goals (first | assumption | wp_step))
      refine codeAny_mono (codeAny_call_builtin (R := wants (fun r s₂ => r = .none ∧ Q (.ref s.heap.objs.size) s₂) E) F.called_set.init.plain F.entry_set_init (check_set_init_1 hT ?_)) fun r₂ s₂ hr₂ => ?_
      · refine init_tt (A := A.in1) (s := s) ks (by simp [hh]) hl hit hk hfew (show A.units + 1 + 2 < cLine by omega) fun h' tk L es ep t r g k => ⟨rfl, h h' tk L es ep t r g k⟩
      · rcases r₂ with e | fl₂
        · exact hr₂
        · cases fl₂ with
          | ret r =>
            obtain ⟨rfl, q⟩ := hr₂
            repeat (any_goals (first | assumption | wp_step))
          | _ => exact hr₂.elim
    | _ => exact hr.elim
end
section
variable {X : Cx}
/-- set(xs), xs a tuple of tuples of ints -/
def rSetTT (K : PySem.W.Frag) (P : Program) (w : World) : List V → Hp → VK → Prop := fun xs H Q => ∃ (l : Addr) (ks : List (Addr × List Int)), xs = [V.ref l] ∧ SqT K H l (ks.map fun p => V.ref p.1) ∧ (∀ p ∈ ks, SqT K H p.1 (p.2.map V.int)) ∧ ks.length < 64 ∧
  ∀ a L, H a = none → (∀ p ∈ L, p ∈ ks) → (∀ p ∈ ks, p.2 ∈ L.map (·.2)) → Q (.ref a) (upd H a (SetTO P w a L))
theorem cr_setTT (hc : X.calm = true) (hu : X.A.units + 64 < cLine) : CallR X (.type "set") (rSetTT X.K X.prog X.w) := by
  intro pins s σ H xs us Q I r h
  obtain ⟨l, ks, rfl, hl, hk, hf, q⟩ := h
  rw [Vals.ref1 r]
  obtain ⟨its, rv, pl, hz⟩ := I.tuple hl
  have hn : H s.heap.objs.size = none := I.hok.fresh (Nat.le_refl _)
  refine call_ttups (P := X.prog) (w := X.w) ks (I.ok.hd hc) pl (by simpa using refs_of_vals rv) (fun p hp => I.isT (hk p hp)) hf (by omega) fun h' tk L es ep t R g k => ?_
  exact ⟨.ref s.heap.objs.size, upd H s.heap.objs.size (SetTO X.prog X.w s.heap.objs.size L), I.laid (t' := tk) k (Nat.le_refl _) (setTO_new R.t0), rfl, q _ L hn (fun p hp => List.mem_of_mem_take (g.sub p hp)) fun p hp => g.all p (by rw [List.take_length]; exact hp)⟩
end
end Mn
/-! Mn, part Rs: sorted(set(x)) of tuples of ints. -/
namespace Mn
open PySem L2 PySem.Spec
open PyProof.Rows hiding St
theorem perm_sortT (l : List (List Int)) : (sortT l).Perm l := List.mergeSort_perm ..
@[simp] theorem mem_sortT (l : List (List Int)) (x : List Int) : x ∈ sortT l ↔ x ∈ l := (perm_sortT l).mem_iff
theorem ord_sortT (l : List (List Int)) : (sortT l).Pairwise (· ≤ ·) := by
  have := List.pairwise_mergeSort (le := fun a b : List Int => decide (a ≤ b)) (by
    simp only [decide_eq_true_eq]
    exact fun a b c => List.le_trans) (by
    simp only [Bool.or_eq_true, decide_eq_true_eq]
    exact fun a b => List.le_total a b) l
  simpa [sortT] using this
theorem ris_sortT {l : List (List Int)} (h : l.Nodup) : (sortT l).Pairwise (· < ·) := by
  have h2 : (sortT l).Nodup := (perm_sortT l).nodup_iff.mpr h
  refine List.Pairwise.imp₂ (fun a b h1 h2 => ?_) (ord_sortT l) h2
  rcases List.le_iff_lt_or_eq.mp h1 with h | h
  · exact h
  · exact absurd h h2
/-- rising rows with the same things are the same -/
theorem ris_ext {α : Type} [LT α] (irr : ∀ a : α, ¬ a < a) (asy : ∀ a b : α, a < b → ¬ b < a) {l m : List α} (hl : l.Pairwise (· < ·)) (hm : m.Pairwise (· < ·)) (h : ∀ x, x ∈ l ↔ x ∈ m) : l = m := by
  induction l generalizing m with
  | nil => cases m with
    | nil => rfl
    | cons y r => exact absurd ((h y).mpr (by simp)) (by simp)
  | cons x r ih =>
    cases m with
    | nil => exact absurd ((h x).mp (by simp)) (by simp)
    | cons y s =>
      have hl' := List.pairwise_cons.mp hl
      have hm' := List.pairwise_cons.mp hm
      have e : x = y := by
        have a1 := (h x).mp (by simp)
        have a2 := (h y).mpr (by simp)
        rcases List.mem_cons.mp a1 with e | m1
        · exact e
        · rcases List.mem_cons.mp a2 with e | m2
          · exact e.symm
          · exact absurd (hl'.1 y m2) (asy _ _ (hm'.1 x m1))
      subst e
      congr 1
      refine ih hl'.2 hm'.2 fun z => ⟨fun hz => ?_, fun hz => ?_⟩
      · have := (h z).mp (by simp [hz])
        rcases List.mem_cons.mp this with e | g
        · subst e; exact absurd (hl'.1 z hz) (irr z)
        · exact g
      · have := (h z).mpr (by simp [hz])
        rcases List.mem_cons.mp this with e | g
        · subst e; exact absurd (hm'.1 z hz) (irr z)
        · exact g
theorem risT_ext {l m : List (List Int)} (hl : l.Pairwise (· < ·)) (hm : m.Pairwise (· < ·)) (h : ∀ x, x ∈ l ↔ x ∈ m) : l = m := ris_ext (fun a => List.lt_irrefl a) (fun a b h g => List.lt_asymm h g) hl hm h
theorem mem_ddp {x : List Int} : ∀ {l : List (List Int)}, x ∈ ddp l ↔ x ∈ l
  | [] => by simp [ddp]
  | y :: r => by
    simp only [ddp, List.mem_cons, List.mem_filter, mem_ddp (l := r), Bool.not_eq_true', decide_eq_false_iff_not]
    by_cases h : x = y <;> simp [h]
theorem nodup_ddp : ∀ l : List (List Int), (ddp l).Nodup
  | [] => .nil
  | y :: r => by
    rw [ddp, List.nodup_cons]
    refine ⟨by simp, (nodup_ddp r).filter _⟩
theorem code_ris {B : Int} : ∀ {xs ys : List Int}, xs.length = ys.length → TS.Bd B xs → TS.Bd B ys → TS.code B xs ≤ TS.code B ys → xs ≠ ys → xs < ys
  | [], [], _, _, _, _, h => absurd rfl h
  | [], _ :: _, e, _, _, _, _ => by cases e
  | _ :: _, [], e, _, _, _, _ => by cases e
  | x :: r, y :: q, e, hx, hy, h, ne => by
    have e' : r.length = q.length := by simpa using e
    have hr : TS.Bd B r := fun m hm => hx m (by simp [hm])
    have hq : TS.Bd B q := fun m hm => hy m (by simp [hm])
    rcases Int.lt_trichotomy x y with c | c | c
    · simp [List.cons_lt_cons_iff, c]
    · subst c
      have ne' : r ≠ q := fun z => ne (by rw [z])
      have h' : TS.code B r ≤ TS.code B q := by
        rcases Int.lt_or_le (TS.code B q) (TS.code B r) with z | z
        · have := (TS.code_same (B := B) (d := x) e'.symm).mpr z
          omega
        · exact z
      simp [List.cons_lt_cons_iff, code_ris e' hr hq h' ne']
    · have := TS.code_lt (d := y) (e := x) e'.symm hq hr c
      omega
theorem intsD_eq : ∀ {xs : List D} {w : List Int}, intsD xs = some w → xs = w.map .int
  | [], w, h => by cases h; rfl
  | x :: r, w, h => by
    cases x with
    | int i =>
      simp only [intsD, Option.map_eq_some_iff] at h
      obtain ⟨v, h1, rfl⟩ := h
      rw [intsD_eq h1]; rfl
    | _ => cases h
section
variable {K : PySem.W.Frag} {H : Hp} {A : AS}
theorem ints_of : ∀ {vs : List V} {w : List Int}, RpAll K H A vs (w.map .int) → vs = w.map V.int
  | _, [], h => by cases h; rfl
  | _, i :: w, h => by
    cases h with
    | cons r t =>
      cases r
      rw [ints_of t]; rfl
theorem rp_ints2 : ∀ (w : List Int), RpAll K H A (w.map V.int) (w.map PyData.int)
  | [] => .nil
  | i :: w => .cons (.int i) (rp_ints2 w)
theorem ks_of : ∀ {vs : List V} {xs : List D} {ws : List (List Int)}, RpAll K H A vs xs → tupsD xs = some ws → ∃ ks : List (Addr × List Int), vs = ks.map (fun p => V.ref p.1) ∧ ks.map (·.2) = ws ∧ ∀ p ∈ ks, H p.1 = some (.tup (p.2.map V.int)) ∧ ¬ A p.1
  | _, [], ws, .nil, h => by
    cases h
    exact ⟨[], rfl, rfl, by simp⟩
  | _, x :: r, ws, .cons rx t, h => by
    cases x with
    | tuple ys =>
      simp only [tupsD, Option.bind_eq_some_iff, Option.map_eq_some_iff] at h
      obtain ⟨w, h1, ws', h2, rfl⟩ := h
      have := intsD_eq h1
      subst this
      obtain ⟨ks, e1, e2, e3⟩ := ks_of t h2
      cases rx with
      | @tup a zs _ ha na q =>
        have := ints_of q
        subst this
        refine ⟨(a, w) :: ks, by rw [e1]; rfl, by rw [← e2]; rfl, fun p hp => ?_⟩
        rcases List.mem_cons.mp hp with z | z
        · subst z; exact ⟨ha, na⟩
        · exact e3 p z
    | _ => cases h
theorem rp_tups {H' : Hp} (g : Grow H H') : ∀ {ks : List (Addr × List Int)}, (∀ p ∈ ks, H p.1 = some (.tup (p.2.map V.int)) ∧ ¬ A p.1) → RpAll K H' A (ks.map fun p => V.ref p.1) ((ks.map (·.2)).map fun w => PyData.tuple (w.map .int))
  | [], _ => .nil
  | p :: ks, h => .cons (.tup (g _ _ (h p (by simp)).1) (h p (by simp)).2 (rp_ints2 _)) (rp_tups g fun q hq => h q (by simp [hq]))
end
section
variable {p : PC} {X : Cx} {C : Ctx}
/-- set(x) of a list or of a tuple -/
def rSetB (K : PySem.W.Frag) (P : Program) (w : World) : List V → Hp → VK → Prop := fun xs H Q => ∃ (l : Addr) (ks : List (Addr × List Int)), xs = [V.ref l] ∧ (SqL K H l (ks.map fun p => V.ref p.1) ∨ SqT K H l (ks.map fun p => V.ref p.1)) ∧ (∀ p ∈ ks, SqT K H p.1 (p.2.map V.int)) ∧ ks.length < 64 ∧
  ∀ a L, H a = none → (∀ p ∈ L, p ∈ ks) → (∀ p ∈ ks, p.2 ∈ L.map (·.2)) → Q (.ref a) (upd H a (SetTO P w a L))
theorem cr_setB (hc : X.calm = true) (hu : X.A.units + 64 < cLine) : CallR X (.type "set") (rSetB X.K X.prog X.w) := by
  intro pins s σ H xs us Q I r ⟨l, ks, e, hl, q⟩
  rcases hl with hl | hl
  · exact cr_setOfT hc hu pins s σ H xs us Q I r ⟨l, ks, e, hl, q⟩
  · exact cr_setTT hc hu pins s σ H xs us Q I r ⟨l, ks, e, hl, q⟩
/-- the set between is a thing of its own, kept by none -/
theorem pe_sset {ea : Expr} {p1 p2 pos pos2 : Pos} (hc : X.calm = true) (hu : X.A.units + 64 < cLine) (g1 : Gl X "sorted") (n1 : X.mg "sorted" = none) (g2 : Gl X "set") (n2 : X.mg "set" = none) (ok : okE ea = true) :
    PE X (.Call (.Name "sorted" p1) [.Call (.Name "set" p2) [ea] [] pos2] [] pos) (fun σ H Q => WE X ea σ H fun x H1 => ∃ (a : Addr) (ks : List (Addr × List Int)) (d : Nat), x = .ref a ∧ (SqL X.K H1 a (ks.map fun p => V.ref p.1) ∨ SqT X.K H1 a (ks.map fun p => V.ref p.1)) ∧ (∀ p ∈ ks, SqT X.K H1 p.1 (p.2.map V.int)) ∧ ks.length < 64 ∧ 1 ≤ d ∧ (∀ p ∈ ks, p.2.length = d ∧ TS.Bd bdB p.2) ∧
      ∀ (a2 : Addr) (L L' : List (Addr × List Int)) (q : Addr), H1 a2 = none → (∀ p ∈ L, p ∈ ks) → (∀ p ∈ ks, p.2 ∈ L.map (·.2)) → L'.Perm L → (L'.map (·.2)).Nodup → L'.Pairwise (fun p r => TS.code bdB p.2 ≤ TS.code bdB r.2) → (upd H1 a2 (SetTO X.prog X.w a2 L)) q = none →
        Q (.ref q) (upd (upd H1 a2 (SetTO X.prog X.w a2 L)) q (.lst (L'.map fun p => V.ref p.1)))) := by
  refine ⟨?_⟩; intro pins s σ H Q I h
  refine Call_ (ld_blt I g1 n1 rfl (PyProof.Rows.callWith_builtin1 (args_cons (Call_ (ld_blt I g2 n2 PyProof.Rows.boot_set (PyProof.Rows.callWith_type1 (args_cons (thn (h pins s I) fun u s1 ⟨v, H1, I1, r1, q1⟩ => args_nil ?_) (star1 ok)) (star1 ok) rfl))) (star1 rfl)) (star1 rfl) rfl))
  obtain ⟨a, ks, d, e0, hl, ht, hk, hd, hb, q⟩ := q1
  subst e0
  refine thn (cr_setB hc hu pins s1 σ H1 [.ref a] [u] (fun v2 H2 => rSortedT X.K X.prog X.w [v2] H2 Q) I1 (.cons r1 .nil) ⟨a, ks, rfl, hl, ht, hk, fun a2 L n m1 m2 => ?_⟩) fun u2 s2 ⟨v2, H2, I2, r2, q2⟩ => args_nil (cr_sortedT hc pins s2 σ H2 [v2] [u2] Q I2 (.cons r2 .nil) q2)
  refine ⟨a2, L, d, bdB, rfl, upd_same, fun p hp => Mn.SqT.stay (ht p (m1 p hp)) fun o e => ?_, hd, fun p hp => hb p (m1 p hp), fun L' z pm nd few pw hz => q a2 L L' z n m1 m2 pm nd pw hz⟩
  rw [upd_ne (fun z => by rw [z, n] at e; cases e)]
  exact e
theorem se_sset {N : List Str} {sc : Scope} {top : Bool} {cs : CE} {ea : Expr} {p1 p2 pos pos2 : Pos} (hc : X.calm = true) (hu : X.A.units + 64 < cLine) (g1 : Gl X "sorted") (n1 : X.mg "sorted" = none) (g2 : Gl X "set") (n2 : X.mg "set" = none) (ok : okE ea = true) (ss : SO p C X cs [ea]) :
    SE p C X (.op .sset cs) (.Call (.Name "sorted" p1) [.Call (.Name "set" p2) [ea] [] pos2] [] pos) := by
  intro σ H F fr own m fr1 Q kt f ev kk
  obtain ⟨os, ds, e1, e2, e3⟩ := ev_op ev
  refine we_kt (we_of (pe_sset hc hu g1 n1 g2 n2 ok) ?_)
  have post : ∀ vs H1, KT X.K H1 → vs.length = [ea].length → PostO p X.K (pureE cs) F σ H own fr1 os vs H1 → ∃ (a : Addr) (ks : List (Addr × List Int)) (d : Nat), vs.getD 0 .non = .ref a ∧ (SqL X.K H1 a (ks.map fun p => V.ref p.1) ∨ SqT X.K H1 a (ks.map fun p => V.ref p.1)) ∧ (∀ p ∈ ks, SqT X.K H1 p.1 (p.2.map V.int)) ∧ ks.length < 64 ∧ 1 ≤ d ∧ (∀ p ∈ ks, p.2.length = d ∧ TS.Bd bdB p.2) ∧
      ∀ (a2 : Addr) (L L' : List (Addr × List Int)) (q : Addr), H1 a2 = none → (∀ p ∈ L, p ∈ ks) → (∀ p ∈ ks, p.2 ∈ L.map (·.2)) → L'.Perm L → (L'.map (·.2)).Nodup → L'.Pairwise (fun p r => TS.code bdB p.2 ≤ TS.code bdB r.2) → (upd H1 a2 (SetTO X.prog X.w a2 L)) q = none →
        KT X.K (upd (upd H1 a2 (SetTO X.prog X.w a2 L)) q (.lst (L'.map fun p => V.ref p.1))) → Q (.ref q) (upd (upd H1 a2 (SetTO X.prog X.w a2 L)) q (.lst (L'.map fun p => V.ref p.1))) := by
    intro vs H1 kt1 hl ⟨own1, fp, f1, o1, s1, pp⟩
    have rn := ops_rn f1 o1 e2
    cases rn with
    | nil => cases hl
    | cons r1 r2 =>
      cases r2 with
      | cons r2 r3 => simp at hl
      | nil =>
        have e3' : ssetS _ = some m := e3
        obtain ⟨xs, a, vs', e, h1, h2, e4⟩ : ∃ xs a vs', _ = V.ref a ∧ (SqL X.K H1 a vs' ∨ SqT X.K H1 a vs') ∧ RpAll X.K H1 _ vs' xs ∧ ssetB xs = some m := by
          unfold ssetS at e3'
          split at e3'
          · rename_i xs q
            cases q
            obtain ⟨a, vs', e, h1, h2⟩ := r1.lst
            exact ⟨xs, a, vs', e, .inl h1, h2, e3'⟩
          · rename_i xs q
            cases q
            obtain ⟨a, vs', e, h1, h2, _⟩ := r1.tup
            exact ⟨xs, a, vs', e, .inr (SqT.of h1), h2, e3'⟩
          · cases e3'
        obtain ⟨ws, ew, e4⟩ := Option.bind_eq_some_iff.mp e4
        split at e4
        · rename_i hok
          cases e4
          obtain ⟨ks, rfl, ek, hk⟩ := ks_of h2 ew
          unfold setOk at hok
          obtain ⟨o1', o2'⟩ := Bool.and_eq_true_iff.mp hok
          have hlen : ks.length < 64 := by
            have : ks.length = ws.length := by rw [← ek, List.length_map]
            rw [this]; simpa using o1'
          obtain ⟨d, hd, hbd⟩ : ∃ d, 1 ≤ d ∧ ∀ w ∈ ws, w.length = d ∧ TS.Bd bdB w := by
            split at o2'
            · exact ⟨1, Nat.le_refl _, fun w hw => by cases hw⟩
            · rename_i w ws'
              simp only [Bool.and_eq_true, decide_eq_true_eq, List.all_eq_true] at o2'
              refine ⟨w.length, List.length_pos_iff.mpr o2'.1, fun v hv => ⟨(o2'.2 v hv).1, fun x hx => (o2'.2 v hv).2 x hx⟩⟩
          have hin : ∀ p ∈ ks, p.2 ∈ ws := fun p hp => by rw [← ek]; exact List.mem_map_of_mem hp
          refine ⟨a, ks, d, e, h1, fun p hp => SqT.of (hk p hp).1, hlen, hd, fun p hp => hbd _ (hin p hp), fun a2 L L' q n m1 m2 pm nd pw hq kt2 => kk _ _ kt2 (post_op kt2 f1 s1 pp ?_)⟩
          have sub : ∀ p ∈ L', p ∈ ks := fun p hp => m1 p (pm.mem_iff.mp hp)
          have el : L'.map (·.2) = sortT (ddp ws) := by
            refine risT_ext ?_ (ris_sortT (nodup_ddp ws)) fun x => ?_
            · rw [List.pairwise_map]
              have nd' := List.pairwise_map.mp nd
              refine List.Pairwise.imp₂ (R := fun p r => (TS.code bdB p.2 ≤ TS.code bdB r.2) ∧ p ∈ L' ∧ r ∈ L') (fun p r h1 h2 => ?_) ((List.Pairwise.and_mem.mp pw).imp fun h => ⟨h.2.2, h.1, h.2.1⟩) nd'
              have b1 := hbd _ (hin p (sub p h1.2.1))
              have b2 := hbd _ (hin r (sub r h1.2.2))
              exact code_ris (b1.1.trans b2.1.symm) b1.2 b2.2 h1.1 h2
            · rw [mem_sortT, mem_ddp]
              constructor
              · intro hx
                obtain ⟨p, hp, rfl⟩ := List.mem_map.mp hx
                exact hin p (sub p hp)
              · intro hx
                rw [← ek] at hx
                obtain ⟨p, hp, rfl⟩ := List.mem_map.mp hx
                obtain ⟨r, hr, e5⟩ := List.mem_map.mp (m2 p hp)
                exact List.mem_map.mpr ⟨r, pm.mem_iff.mpr hr, e5⟩
          rw [← el]
          have g1' : Grow H1 (upd H1 a2 (SetTO X.prog X.w a2 L)) := grow_new n
          have ra := rp_tups (K := X.K) g1' (fun p hp => hk p (sub p hp))
          have rr := res_lst (p := p) ra hq
          intro kt3
          obtain ⟨fp', mr, gg, nn⟩ := rr kt3
          refine ⟨fp', mr, fun a o z => gg a o (g1' a o z), fun a z => ?_⟩
          have := nn a z
          cases q3 : H1 a with
          | none => rfl
          | some o => rw [g1' a o q3] at this; cases this
        · cases e4
  have key := ss σ H F fr own os fr1 _ kt f e1 post
  exact key
end
end Mn
/-! Mn, part H: what is walked; targets; list comprehensions. -/
namespace Mn
open PySem L2 PySem.Spec RZ
open PyProof.Rows hiding St

/-- what a loop walks -/
inductive ItR (K : PySem.W.Frag) (H : Hp) (A : AS) : It → List D → Prop
  | lst {a : Addr} {xs : List V} {ds : List D} : FzL K H a xs → ¬ A a → RpAll K H A xs ds → ItR K H A (Itl K a) ds
  | tup {a : Addr} {xs : List V} {ds : List D} : H a = some (.tup xs) → ¬ A a → RpAll K H A xs ds → ItR K H A (Itt K a) ds
  | rng {lo : Int} {n : Nat} {ds : List D} : ds = (List.range n).map (fun (k : Nat) => PyData.int (lo + (k : Int))) → ItR K H A (Itr lo n) ds
  | zipL {a b : Addr} {xs ys : List V} {ds es : List D} : FzL K H a xs → FzL K H b ys → ¬ A a → ¬ A b → RpAll K H A xs ds → RpAll K H A ys es → ItR K H A (Itz K a b) (zipD ds es)
  | zipT {a b : Addr} {xs ys : List V} {ds es : List D} : H a = some (.tup xs) → H b = some (.tup ys) → ¬ A a → ¬ A b → RpAll K H A xs ds → RpAll K H A ys es → ItR K H A (ItzT K a b) (zipD ds es)
/-- the least of it: it goes on, or it stops -/
inductive ItS (K : PySem.W.Frag) (H : Hp) : It → Nat → Prop
  | lst {a : Addr} {xs : List V} {n : Nat} : FzL K H a xs → xs.length = n → ItS K H (Itl K a) n
  | tup {a : Addr} {xs : List V} {n : Nat} : H a = some (.tup xs) → xs.length = n → ItS K H (Itt K a) n
  | rng {lo : Int} {n : Nat} : ItS K H (Itr lo n) n
  | zipL {a b : Addr} {xs ys : List V} {n : Nat} : FzL K H a xs → FzL K H b ys → min xs.length ys.length = n → ItS K H (Itz K a b) n
  | zipT {a b : Addr} {xs ys : List V} {n : Nat} : H a = some (.tup xs) → H b = some (.tup ys) → min xs.length ys.length = n → ItS K H (ItzT K a b) n
theorem zipD_length : ∀ (xs ys : List D), (zipD xs ys).length = min xs.length ys.length
  | [], _ => by simp [zipD]
  | _ :: _, [] => by simp [zipD]
  | x :: xs, y :: ys => by simp only [zipD, List.length_cons, zipD_length xs ys]; omega
theorem zipD_get : ∀ {xs ys : List D} {i : Nat} {d : D}, (zipD xs ys)[i]? = some d → ∃ x y, xs[i]? = some x ∧ ys[i]? = some y ∧ d = .tuple [x, y]
  | [], _, _, _, h => by simp [zipD] at h
  | _ :: _, [], _, _, h => by simp [zipD] at h
  | x :: xs, y :: ys, 0, d, h => by simp [zipD] at h; exact ⟨x, y, rfl, rfl, h.symm⟩
  | x :: xs, y :: ys, i + 1, d, h => by
    simp only [zipD, List.getElem?_cons_succ] at h
    simpa using zipD_get h
section
variable {K : PySem.W.Frag} {H H' : Hp} {A A' W W' : AS} {J : It} {ds : List D}
theorem ItR.s (h : ItR K H A J ds) : ItS K H J ds.length := by
  cases h with
  | lst e _ r => exact .lst e r.length
  | tup e _ r => exact .tup e r.length
  | rng e => subst e; rw [List.length_map, List.length_range]; exact .rng
  | zipL e1 e2 _ _ r1 r2 => exact .zipL e1 e2 (by rw [zipD_length, r1.length, r2.length])
  | zipT e1 e2 _ _ r1 r2 => exact .zipT e1 e2 (by rw [zipD_length, r1.length, r2.length])
theorem ItS.grow {n : Nat} (h : ItS K H J n) (g : Grow H H') : ItS K H' J n := by
  cases h with
  | lst e r => exact .lst (e.stay fun o z => g _ o z) r
  | tup e r => exact .tup (g _ _ e) r
  | rng => exact .rng
  | zipL e1 e2 r => exact .zipL (e1.stay fun o z => g _ o z) (e2.stay fun o z => g _ o z) r
  | zipT e1 e2 r => exact .zipT (g _ _ e1) (g _ _ e2) r
theorem ItR.step (h : ItR K H A J ds) (kk : ∀ a o, K.lookup a = some o → ¬ W' a) (s : Step H W H' W') (wa : ∀ a, W a → A a) (aa : ∀ a, A' a → A a ∨ W' a) : ItR K H' A' J ds := by
  have nl : ∀ {a xs}, FzL K H a xs → ¬ A a → ¬ A' a := fun {a xs} e n z => by
    rcases aa a z with q | q
    · exact n q
    · rcases s.2 a q with q1 | q1
      · exact n (wa a q1)
      · rcases e with ⟨o, e⟩ | ⟨_, _, e, _⟩
        · rw [e] at q1; cases q1
        · exact kk a _ e q
  have nt : ∀ {a xs}, H a = some (.tup xs) → ¬ A a → ¬ A' a := fun {a xs} e n z => by
    rcases aa a z with q | q
    · exact n q
    · rcases s.2 a q with q | q
      · exact n (wa a q)
      · rw [e] at q; cases q
  cases h with
  | lst e n r => exact .lst (e.stay fun o z => s.1 _ o z fun q => n (wa _ q)) (nl e n) (r.step kk s wa aa)
  | tup e n r => exact .tup (s.1 _ _ e fun q => n (wa _ q)) (nt e n) (r.step kk s wa aa)
  | rng e => exact .rng e
  | zipL e1 e2 n1 n2 r1 r2 => exact .zipL (e1.stay fun o z => s.1 _ o z fun q => n1 (wa _ q)) (e2.stay fun o z => s.1 _ o z fun q => n2 (wa _ q)) (nl e1 n1) (nl e2 n2) (r1.step kk s wa aa) (r2.step kk s wa aa)
  | zipT e1 e2 n1 n2 r1 r2 => exact .zipT (s.1 _ _ e1 fun q => n1 (wa _ q)) (s.1 _ _ e2 fun q => n2 (wa _ q)) (nt e1 n1) (nt e2 n2) (r1.step kk s wa aa) (r2.step kk s wa aa)
theorem get_lt {α : Type} {xs : List α} {i : Nat} (h : i < xs.length) : ∃ x, xs[i]? = some x := ⟨xs[i], List.getElem?_eq_getElem h⟩
theorem ItS.go {n i : Nat} (h : ItS K H J n) (hi : i < n) : J.go i H := by
  cases h with
  | lst e r => obtain ⟨x, q⟩ := get_lt (by rw [r]; exact hi); exact ⟨_, x, e.sq, q⟩
  | tup e r => obtain ⟨x, q⟩ := get_lt (by rw [r]; exact hi); exact ⟨_, x, SqT.of e, q⟩
  | rng => exact hi
  | @zipL _ _ xs ys _ e1 e2 r =>
    obtain ⟨x, q⟩ := get_lt (xs := xs) (i := i) (by omega)
    obtain ⟨y, q'⟩ := get_lt (xs := ys) (i := i) (by omega)
    exact ⟨_, _, x, y, e1.sq, e2.sq, q, q'⟩
  | @zipT _ _ xs ys _ e1 e2 r =>
    obtain ⟨x, q⟩ := get_lt (xs := xs) (i := i) (by omega)
    obtain ⟨y, q'⟩ := get_lt (xs := ys) (i := i) (by omega)
    exact ⟨_, _, x, y, SqT.of e1, SqT.of e2, q, q'⟩
theorem ItS.stop {n i : Nat} (h : ItS K H J n) (hi : n ≤ i) : J.stop i H := by
  cases h with
  | lst e r => exact ⟨_, e.sq, by omega⟩
  | tup e r => exact ⟨_, SqT.of e, by omega⟩
  | rng => exact hi
  | zipL e1 e2 r => exact ⟨_, _, e1.sq, e2.sq, by omega⟩
  | zipT e1 e2 r => exact ⟨_, _, SqT.of e1, SqT.of e2, by omega⟩
/-- what a turn yields -/
theorem ItR.yld {i : Nat} {d : D} {x : V} (h : ItR K H A J ds) (tr : TrkA H A) (e : ds[i]? = some d) (y : J.yld i H x H') (kt : KT K H') : Rp K H' A x d ∧ Grow H H' ∧ ∀ a, ¬ A a → H a = none → True := by
  cases h with
  | lst el n r =>
    obtain ⟨rfl, q⟩ := y
    obtain ⟨v, h1, h2⟩ := r.get e
    rw [q _ el.sq] at h1
    cases h1
    exact ⟨h2, fun _ _ e => e, fun _ _ _ => trivial⟩
  | tup el n r =>
    obtain ⟨rfl, q⟩ := y
    obtain ⟨v, h1, h2⟩ := r.get e
    rw [q _ (SqT.of el)] at h1
    cases h1
    exact ⟨h2, fun _ _ e => e, fun _ _ _ => trivial⟩
  | rng el =>
    obtain ⟨rfl, rfl⟩ := y
    subst el
    rw [List.getElem?_map] at e
    obtain ⟨k, h1, h2⟩ := Option.map_eq_some_iff.mp e
    have : k = i := by
      obtain ⟨hlt, hk⟩ := List.getElem?_eq_some_iff.mp h1
      rw [List.getElem_range] at hk; exact hk.symm
    subst this; subst h2
    exact ⟨.int _, fun _ _ e => e, fun _ _ _ => trivial⟩
  | zipL e1 e2 n1 n2 r1 r2 =>
    obtain ⟨T, x', y', rfl, hT, rfl, q1, q2⟩ := y
    obtain ⟨dx, dy, z1, z2, rfl⟩ := zipD_get e
    obtain ⟨v, h1, h2⟩ := r1.get z1
    obtain ⟨v', h1', h2'⟩ := r2.get z2
    rw [q1 _ e1.sq] at h1; cases h1
    rw [q2 _ e2.sq] at h1'; cases h1'
    have r := all_new (A := A) (.cons h2 (.cons h2' .nil)) hT kt
    exact ⟨.tup upd_same (not_new tr hT) (r.imp fun a z => .inl z), grow_new hT, fun _ _ _ => trivial⟩
  | zipT e1 e2 n1 n2 r1 r2 =>
    obtain ⟨T, x', y', rfl, hT, rfl, q1, q2⟩ := y
    obtain ⟨dx, dy, z1, z2, rfl⟩ := zipD_get e
    obtain ⟨v, h1, h2⟩ := r1.get z1
    obtain ⟨v', h1', h2'⟩ := r2.get z2
    rw [q1 _ (SqT.of e1)] at h1; cases h1
    rw [q2 _ (SqT.of e2)] at h1'; cases h1'
    have r := all_new (A := A) (.cons h2 (.cons h2' .nil)) hT kt
    exact ⟨.tup upd_same (not_new tr hT) (r.imp fun a z => .inl z), grow_new hT, fun _ _ _ => trivial⟩
end

/-! ### iterables -/
def WI (X : Cx) (tg iter : Expr) : TI := fun σ H R => ∀ (pins : List (Addr × Obj)) (s : Shared), Inv X pins σ H s → wpAny (model X.prog X.w) X.A (eval iter X.env) (fun v s1 => wpAny (model X.prog X.w) X.A (pyIter v) (PIE X pins σ tg R) X.xe s1) X.xe s
section
variable {p : PC} {N : List Str} {sc : Scope} {top : Bool} {X : Cx} {C : Ctx}
theorem pi_wi {tg iter : Expr} : PI X tg iter (WI X tg iter) := ⟨fun pins s σ H R I h => h pins s I⟩
theorem wi_of {tg iter : Expr} {wi : TI} (h : PI X tg iter wi) {σ : L2.St} {H : Hp} {R : It → Hp → Prop} (k : wi σ H R) : WI X tg iter σ H R := fun pins s I => h.run pins s σ H R I k
/-- behind the iterable -/
def PostI (p : PC) (K : PySem.W.Frag) (F : AS) (σ : L2.St) (H0 : Hp) (own0 : Nat → AS) (fr1 : Fr) (ds : List D) (J : It) (H : Hp) : Prop :=
  ∃ (own : Nat → AS), FR p K F σ H fr1 own ∧ ItR K H (or_ F (Own own)) J ds ∧ Step H0 (Own own0) H (Own own)
def SI (p : PC) (C : Ctx) (X : Cx) (k : ItK) (c : CE) (tg iter : Expr) : Prop := ∀ (σ : L2.St) (H : Hp) (F : AS) (fr : Fr) (own : Nat → AS) (os ds : List D) (fr1 : Fr) (R : It → Hp → Prop), KT X.K H → FR p X.K F σ H fr own → evVs C c fr = .ok (os, fr1) → iterD k os = some ds →
  (∀ J H1, KT X.K H1 → PostI p X.K F σ H own fr1 ds J H1 → R J H1) → WI X tg iter σ H R
theorem rp_lst {K : PySem.W.Frag} {H : Hp} {A : AS} {v : V} {xs : List D} (h : Rp K H A v (.list xs)) : ∃ a vs, v = .ref a ∧ FzL K H a vs ∧ ¬ A a ∧ RpAll K H A vs xs := by
  cases h with
  | lst h n r => exact ⟨_, _, rfl, h, n, r⟩
theorem rp_tup {K : PySem.W.Frag} {H : Hp} {A : AS} {v : V} {xs : List D} (h : Rp K H A v (.tuple xs)) : ∃ a vs, v = .ref a ∧ H a = some (.tup vs) ∧ ¬ A a ∧ RpAll K H A vs xs := by
  cases h with
  | tup h n r => exact ⟨_, _, rfl, h, n, r⟩
theorem rp_int {K : PySem.W.Frag} {H : Hp} {A : AS} {v : V} {i : Int} (h : Rp K H A v (.int i)) : v = .int i := by cases h; rfl
theorem it_seq {os ds : List D} (h : iterD .seq os = some ds) : os = [.list ds] ∨ os = [.tuple ds] := by
  unfold iterD at h
  split at h <;> first | contradiction | (cases h; exact .inl rfl) | (cases h; exact .inr rfl)
theorem it_r1 {os ds : List D} (h : iterD .range1 os = some ds) : ∃ j, os = [.int j] ∧ smallI j = true ∧ ds = rngD 0 j := by
  unfold iterD at h
  split at h
  · contradiction
  · contradiction
  · split at h
    · rename_i g; cases h; exact ⟨_, rfl, g, rfl⟩
    · cases h
  · contradiction
  · contradiction
  · contradiction
  · cases h
theorem it_r2 {os ds : List D} (h : iterD .range2 os = some ds) : ∃ i j, os = [.int i, .int j] ∧ (smallI i && smallI j) = true ∧ ds = rngD i j := by
  unfold iterD at h
  split at h
  · contradiction
  · contradiction
  · contradiction
  · split at h
    · rename_i g; cases h; exact ⟨_, _, rfl, g, rfl⟩
    · cases h
  · contradiction
  · contradiction
  · cases h
theorem it_zip {os ds : List D} (h : iterD .zip2 os = some ds) : ∃ xs ys, (os = [.tuple xs, .tuple ys] ∨ os = [.list xs, .list ys]) ∧ ds = zipD xs ys := by
  unfold iterD at h
  split at h
  · contradiction
  · contradiction
  · contradiction
  · contradiction
  · cases h; exact ⟨_, _, .inl rfl, rfl⟩
  · cases h; exact ⟨_, _, .inr rfl, rfl⟩
  · cases h
theorem rpall1 {K : PySem.W.Frag} {H : Hp} {A : AS} {vs : List V} {d : D} (h : RpAll K H A vs [d]) : ∃ v, vs = [v] ∧ Rp K H A v d := by
  cases h with
  | cons r rr => cases rr; exact ⟨_, rfl, r⟩
theorem rpall2 {K : PySem.W.Frag} {H : Hp} {A : AS} {vs : List V} {d d' : D} (h : RpAll K H A vs [d, d']) : ∃ v w, vs = [v, w] ∧ Rp K H A v d ∧ Rp K H A w d' := by
  cases h with
  | cons r rr => obtain ⟨w, rfl, q⟩ := rpall1 rr; exact ⟨_, _, rfl, r, q⟩
theorem si_seq {c : CE} {tg e : Expr} (ss : SV p C X c [e]) : SI p C X .seq c tg e := by
  intro σ H F fr own os ds fr1 R kt f ev it k
  intro pins s I
  have hw := ss σ H F fr own os fr1 (fun vs H1 => PostV p X.K F σ H own fr1 os vs H1) kt f ev (fun vs H1 _ _ q => q)
  refine thn (hw pins s I) fun v s1 ⟨x, H1, I1, r1, own1, f1, ra, s1'⟩ => ?_
  rcases it_seq it with rfl | rfl
  · obtain ⟨v', e', r⟩ := rpall1 ra
    cases e'
    obtain ⟨a, vs, rfl, ha, na, q⟩ := rp_lst r
    cases r1
    obtain ⟨its, rv, pl, hz⟩ := I1.list ha.sq
    refine wpAny_pyIter_list pl.isList ?_
    refine ⟨s1.heap.objs.size, [s1.heap.objs.size], _, _, H1, rfl, I1.kept (t' := s1.toks) fun b o e => Heap.get?_push_of_some _ e, turn_list a _, ⟨_, Heap.get?_push_size _ rfl, rfl, rfl⟩, fun b hmem => ?_, k _ H1 (kt_of I1) ⟨own1, f1, .lst ha na q, s1'⟩⟩
    have e : b = s1.heap.objs.size := by simpa using hmem
    subst e
    exact I1.fpOk (Nat.le_refl _) (I1.hok.fresh (a := s1.heap.objs.size) (Nat.le_refl _))
  · obtain ⟨v', e', r⟩ := rpall1 ra
    cases e'
    obtain ⟨a, vs, rfl, ha, na, q⟩ := rp_tup r
    cases r1
    obtain ⟨its, rv, pl, hz⟩ := I1.tuple (SqT.of ha)
    refine wpAny_pyIter_tuple (show s1.heap.IsTuple a its.toArray from pl) ?_
    refine ⟨s1.heap.objs.size, [s1.heap.objs.size], _, _, H1, rfl, I1.kept (t' := s1.toks) fun b o e => Heap.get?_push_of_some _ e, turn_tuple a _, ⟨_, Heap.get?_push_size _ rfl, rfl, rfl⟩, fun b hmem => ?_, k _ H1 (kt_of I1) ⟨own1, f1, .tup ha na q, s1'⟩⟩
    have e : b = s1.heap.objs.size := by simpa using hmem
    subst e
    exact I1.fpOk (Nat.le_refl _) (I1.hok.fresh (a := s1.heap.objs.size) (Nat.le_refl _))
theorem wes_kt {es : List Expr} {σ : L2.St} {H : Hp} {Q : List V → Hp → Prop} (kt : KT X.K H) (h : WEs X es σ H fun v H1 => KT X.K H1 → Q v H1) : WEs X es σ H Q := wes_mono kt h fun _ _ kt q => q kt
theorem rng_eq (a b : Int) : rngD a b = (List.range (b - a).toNat).map (fun (k : Nat) => PyData.int (a + (k : Int))) := rfl
theorem small_of {i : Int} (h : smallI i = true) : -(2 ^ 62) ≤ i ∧ i < 2 ^ 62 := by
  unfold smallI at h
  simpa using h
theorem si_rng1 {c : CE} {tg e : Expr} {pp pos : Pos} (h : XOk p N sc top X) (gl : glB sc "range" = true) (ok : okE e = true) (ss : SV p C X c [e]) : SI p C X .range1 c tg (.Call (.Name "range" pp) [e] [] pos) := by
  intro σ H F fr own os ds fr1 R kt f ev it k
  refine wi_of (pi_range1 (gl_of h gl) (h.blt _ (by decide)) (pa_wes (by rw [List.all_cons, ok]; rfl)) (star_ok ok)) ?_
  obtain ⟨j, rfl, g, rfl⟩ := it_r1 it
  obtain ⟨g1, g2⟩ := small_of g
  refine ss σ H F fr own _ fr1 _ kt f ev fun vs H1 kt1 hl ⟨own1, f1, r1, s1⟩ => ?_
  obtain ⟨v, rfl, r⟩ := rpall1 r1
  refine ⟨j, by rw [rp_int r], g1, g2, k _ H1 kt1 ⟨own1, f1, .rng ?_, s1⟩⟩
  rw [rng_eq]; simp
theorem si_rng2 {c : CE} {tg e e2 : Expr} {pp pos : Pos} (h : XOk p N sc top X) (gl : glB sc "range" = true) (ok : okE e = true) (ok2 : okE e2 = true) (ss : SV p C X c [e, e2]) : SI p C X .range2 c tg (.Call (.Name "range" pp) [e, e2] [] pos) := by
  intro σ H F fr own os ds fr1 R kt f ev it k
  refine wi_of (pi_range2 (gl_of h gl) (h.blt _ (by decide)) (pa_wes (by rw [List.all_cons, List.all_cons, ok, ok2]; rfl)) (by rw [star_ok ok, star_ok ok2]; rfl) (by rw [star_ok ok2]; rfl)) ?_
  obtain ⟨i, j, rfl, g, rfl⟩ := it_r2 it
  obtain ⟨gi, gj⟩ := Bool.and_eq_true_iff.mp g
  obtain ⟨g1, g2⟩ := small_of gi
  obtain ⟨g3, g4⟩ := small_of gj
  refine ss σ H F fr own _ fr1 _ kt f ev fun vs H1 kt1 hl ⟨own1, f1, r1, s1⟩ => ?_
  obtain ⟨v, w, rfl, r, r'⟩ := rpall2 r1
  exact ⟨i, j, by rw [rp_int r, rp_int r'], ⟨g1, g2, g3, g4⟩, k _ H1 kt1 ⟨own1, f1, .rng (rng_eq _ _), s1⟩⟩
theorem si_zip {c : CE} {e e2 : Expr} {elts : List Expr} {kk : Nat} {tpos pp pos : Pos} (h : XOk p N sc top X) (gl : glB sc "zip" = true) (ok : okE e = true) (ok2 : okE e2 = true) (ss : SV p C X c [e, e2]) : SI p C X .zip2 c (.Tuple elts kk tpos) (.Call (.Name "zip" pp) [e, e2] [] pos) := by
  intro σ H F fr own os ds fr1 R kt f ev it k
  refine wi_of (pi_zipA (gl_of h gl) (h.blt _ (by decide)) (pa_wes (by rw [List.all_cons, List.all_cons, ok, ok2]; rfl)) (star_ok ok) (by rw [star_ok ok2]; rfl)) ?_
  obtain ⟨xs, ys, g, rfl⟩ := it_zip it
  refine ss σ H F fr own _ fr1 _ kt f ev fun vs H1 kt1 hl ⟨own1, f1, r1, s1⟩ => ?_
  rcases g with rfl | rfl
  · obtain ⟨v, w, rfl, r, r'⟩ := rpall2 r1
    obtain ⟨a, vs, rfl, ha, na, q⟩ := rp_tup r
    obtain ⟨b, ws, rfl, hmem, nb, q'⟩ := rp_tup r'
    exact ⟨a, b, vs, ws, rfl, .inr ⟨SqT.of ha, SqT.of hmem, k _ H1 kt1 ⟨own1, f1, .zipT ha hmem na nb q q', s1⟩⟩⟩
  · obtain ⟨v, w, rfl, r, r'⟩ := rpall2 r1
    obtain ⟨a, vs, rfl, ha, na, q⟩ := rp_lst r
    obtain ⟨b, ws, rfl, hmem, nb, q'⟩ := rp_lst r'
    exact ⟨a, b, vs, ws, rfl, .inl ⟨ha.sq, hmem.sq, k _ H1 kt1 ⟨own1, f1, .zipL ha hmem na nb q q', s1⟩⟩⟩
end
end Mn
/-! Mn, part I: targets; list comprehensions. -/
namespace Mn
open PySem L2 PySem.Spec RZ
open PyProof.Rows hiding St

def WG (X : Cx) (tg : Expr) : TG := fun v σ H Q => ∀ (pins : List (Addr × Obj)) (s : Shared) (u : Value), Inv X pins σ H s → RelV v u → wpAny (model X.prog X.w) X.A (assign tg X.env u) (fun _ s' => ∃ σ' H', Inv X pins σ' H' s' ∧ Q σ' H') X.xe s
def WGs (X : Cx) (ts : List Expr) : TGs := fun vs σ H Q => ∀ (pins : List (Addr × Obj)) (s : Shared) (us : List Value), Inv X pins σ H s → Vals vs us → wpAny (model X.prog X.w) X.A (assignInOrder ((assignEach ts X.env).map (·.2)) us) (fun _ s' => ∃ σ' H', Inv X pins σ' H' s' ∧ Q σ' H') X.xe s
/-- the same but at tg -/
def Agree (tg : List Nat) (σ σ' : L2.St) : Prop := σ'.length = σ.length ∧ ∀ j, j ∉ tg → σ'[j]? = σ[j]?
theorem Agree.refl {tg : List Nat} {σ : L2.St} : Agree tg σ σ := ⟨rfl, fun _ _ => rfl⟩
theorem Agree.trans {t1 t2 : List Nat} {σ σ1 σ2 : L2.St} (h1 : Agree t1 σ σ1) (h2 : Agree t2 σ1 σ2) : Agree (t1 ++ t2) σ σ2 :=
  ⟨h2.1.trans h1.1, fun j n => (h2.2 j fun z => n (List.mem_append_right _ z)).trans (h1.2 j fun z => n (List.mem_append_left _ z))⟩
theorem wipe_get {σ : L2.St} : ∀ {tg : List Nat} {j : Nat}, (L2.wipe σ tg)[j]? = if j ∈ tg then (if j < σ.length then some none else none) else σ[j]?
  | [], j => by simp [L2.wipe]
  | i :: r, j => by
    unfold L2.wipe
    by_cases e : j = i
    · subst e
      by_cases hl : j < σ.length
      · rw [List.getElem?_set_self (by rw [wipe_length]; exact hl)]; simp [hl]
      · rw [List.getElem?_eq_none (by rw [List.length_set, wipe_length]; omega)]; simp [hl]
    · rw [List.getElem?_set_ne (Ne.symm e), wipe_get (tg := r)]
      simp [e]
theorem wipe_agree {tg : List Nat} {σ σ' : L2.St} (h : Agree tg σ σ') : L2.wipe σ' tg = L2.wipe σ tg := by
  apply List.ext_getElem?
  intro j
  rw [wipe_get, wipe_get, h.1]
  by_cases e : j ∈ tg
  · simp [e]
  · simp [e, h.2 j e]
theorem wipe_wipe {tg : List Nat} {σ : L2.St} : L2.wipe (L2.wipe σ tg) tg = L2.wipe σ tg := wipe_agree ⟨wipe_length _ _, fun j n => by rw [wipe_get, if_neg n]⟩

section
variable {p : PC} {N : List Str} {sc : Scope} {top : Bool} {X : Cx} {C : Ctx}
theorem pg_wg {e : Expr} : PG X e (WG X e) := ⟨fun pins s σ H v u Q I r h => h pins s u I r⟩
theorem pgs_wgs {e : List Expr} : PGs X e (WGs X e) := ⟨fun pins s σ H v u Q I r h => h pins s u I r⟩
theorem wg_of {e : Expr} {t : TG} (h : PG X e t) {v : V} {σ : L2.St} {H : Hp} {Q : L2.St → Hp → Prop} (k : t v σ H Q) : WG X e v σ H Q := fun pins s u I r => h.run pins s σ H v u Q I r k
theorem wgs_of {e : List Expr} {t : TGs} (h : PGs X e t) {v : List V} {σ : L2.St} {H : Hp} {Q : L2.St → Hp → Prop} (k : t v σ H Q) : WGs X e v σ H Q := fun pins s u I r => h.run pins s σ H v u Q I r k
/-- behind a target -/
def PostG (p : PC) (K : PySem.W.Frag) (tg : List Nat) (F : AS) (σ : L2.St) (H : Hp) (own0 : Nat → AS) (fr1 : Fr) (σ' : L2.St) : Prop :=
  ∃ (own : Nat → AS), FR p K F σ' H fr1 own ∧ Step H (Own own0) H (Own own) ∧ Agree tg σ σ'
def SG (p : PC) (C : Ctx) (X : Cx) (tg : List Nat) (te : Expr) : Prop := ∀ (σ : L2.St) (H : Hp) (F : AS) (fr : Fr) (own : Nat → AS) (x : D) (fr1 : Fr) (v : V) (Q : L2.St → Hp → Prop), FR p X.K F σ H fr own → Rp X.K H (or_ F (Own own)) v x → take C tg x fr = .ok fr1 →
  (∀ σ', PostG p X.K tg F σ H own fr1 σ' → Q σ' H) → WG X te v σ H Q
def SGs (p : PC) (C : Ctx) (X : Cx) (tg : List Nat) (ts : List Expr) : Prop := ∀ (σ : L2.St) (H : Hp) (F : AS) (fr : Fr) (own : Nat → AS) (xs : List D) (fr1 : Fr) (vs : List V) (Q : L2.St → Hp → Prop), FR p X.K F σ H fr own → RpAll X.K H (or_ F (Own own)) vs xs → setSs C tg xs fr = .ok fr1 →
  (∀ σ', PostG p X.K tg F σ H own fr1 σ' → Q σ' H) → WGs X ts vs σ H Q
/-- the name of slot i is stored -/
def locB (N : List Str) (sc : Scope) (top : Bool) (i : Nat) (x : Str) : Bool := decide (N[i]? = some x) && (match sc.names.lookup x with
  | some .local => true
  | some .cell => top
  | _ => false)
theorem loc_of {i : Nat} {x : Str} (b : locB N sc top i x = true) : N[i]? = some x ∧ (sc.names.lookup x = some .local ∨ (sc.names.lookup x = some .cell ∧ top = true)) := by
  unfold locB at b
  obtain ⟨b1, b2⟩ := Bool.and_eq_true_iff.mp b
  refine ⟨of_decide_eq_true b1, ?_⟩
  split at b2
  · exact .inl (by assumption)
  · exact .inr ⟨by assumption, b2⟩
  · cases b2
theorem pg_nm (h : XOk p N sc top X) {i : Nat} {x : Str} {pos : Pos} (b : locB N sc top i x = true) : PG X (.Name x pos) (gName i) := by
  obtain ⟨b1, b2⟩ := loc_of b
  have hl : L2.Loc X.env.scope x := by rw [h.sc]; exact b2.imp id And.left
  refine pg_name (by rw [h.n]; exact h.nd) (by rw [h.n]; exact b1) hl ?_
  rcases b2 with b2 | ⟨_, b2⟩
  · exact .inr (by rw [h.sc]; exact b2)
  · exact .inl (h.fn b2 x)
theorem set_dat {F : AS} {σ : L2.St} {H : Hp} {fr : Fr} {own : Nat → AS} {i : Nat} {x : D} {v : V} (f : FR p X.K F σ H fr own) (r : Rp X.K H (or_ F (Own own)) v x) (hi : i < σ.length) : PostG p X.K [i] F σ H own (fr.set i (some (.d x))) (σ.set i (some v)) := by
  refine ⟨pt own i noA, FR.asg (fp := noA) (f.weak fun a z => z.elim id False.elim) (.b (.d (r.imp fun a z => z.elim (fun q => .inl (q.elim id False.elim)) .inr) fun _ z => z)) (fun _ z => z.elim) hi, ⟨fun _ _ e _ => e, fun a ⟨j, z⟩ => .inl ?_⟩, by rw [List.length_set], fun j n => ?_⟩
  · by_cases e : j = i
    · subst e; rw [pt_same] at z; exact z.elim
    · rw [pt_ne e] at z; exact ⟨j, z⟩
  · rw [List.getElem?_set_ne (fun z => n (by simp [z]))]
theorem setS_ok {fr fr1 : Fr} {i : Nat} {m : M} (h : setS C fr i m = .ok fr1) : C.pin i = false ∧ fr1 = fr.set i (some m) := by
  unfold setS at h
  split at h
  · cases h
  · rename_i q
    cases h
    exact ⟨by simpa using q, rfl⟩
theorem sg_name (h : XOk p N sc top X) {i : Nat} {x : Str} {pos : Pos} (b : locB N sc top i x = true) : SG p C X [i] (.Name x pos) := by
  intro σ H F fr own d fr1 v Q f r t k
  obtain ⟨_, rfl⟩ := setS_ok (show setS C fr i (.d d) = .ok fr1 from t)
  intro pins s u I ru
  have hi : i < σ.length := by rw [I.len, h.n]; exact (List.getElem?_eq_some_iff.mp (loc_of b).1).1
  exact (pg_nm h b).run pins s σ H v u Q I ru (k _ (set_dat f r hi))
theorem sgs_nil : SGs p C X [] [] := by
  intro σ H F fr own xs fr1 vs Q f r t k
  cases xs with
  | cons _ _ => cases t
  | nil =>
    cases t
    cases r
    exact wgs_of pgs_nil ⟨rfl, k σ ⟨own, f, Step.refl _ _, Agree.refl⟩⟩
def isName : Expr → Bool
  | .Name _ _ => true
  | _ => false
theorem sgs_cons (h : XOk p N sc top X) {i : Nat} {x : Str} {pos : Pos} {tg : List Nat} {ts : List Expr} (b : locB N sc top i x = true) (ss : SGs p C X tg ts) : SGs p C X (i :: tg) (.Name x pos :: ts) := by
  intro σ H F fr own xs fr1 vs Q f r t k
  cases xs with
  | nil => cases t
  | cons d ds =>
    obtain ⟨fr2, t1, t2⟩ := bind_ok (show ((setS C fr i (.d d)).bind fun fr => setSs C tg ds fr) = .ok fr1 from t)
    cases r with
    | cons r1 r2 =>
      rename_i v vs
      refine wgs_of (pgs_cons (pg_wg (e := .Name x pos)) (pgs_wgs (e := ts)) rfl) ⟨v, vs, rfl, ?_⟩
      refine sg_name h b σ H F fr own d fr2 v _ f r1 t1 fun σ1 ⟨own1, f1, s1, a1⟩ => ?_
      refine ss σ1 H F fr2 own1 ds fr1 vs Q f1 (r2.imp fun a z => z.elim .inl fun ⟨j, q⟩ => ?_) t2 fun σ2 ⟨own2, f2, s2, a2⟩ => k σ2 ⟨own2, f2, s1.trans s2, a1.trans a2⟩
      rcases s1.2 a ⟨j, q⟩ with q' | q'
      · exact .inr q'
      · obtain ⟨o, e, _⟩ := f1.own_trk a ⟨j, q⟩
        rw [q'] at e; cases e
theorem ae_names : ∀ {ts : List Expr} {env : Env}, ts.all isName = true → (assignEach ts env).length = ts.length ∧ (assignEach ts env).findIdx? (·.1) = none
  | [], _, _ => ⟨rfl, rfl⟩
  | e :: r, env, h => by
    rw [List.all_cons, Bool.and_eq_true_iff] at h
    obtain ⟨h1, h2⟩ := ae_names (env := env) h.2
    cases e <;> try (cases h.1; done)
    rename_i x pos
    have e : assignEach (.Name x pos :: r) env = (false, assign (.Name x pos) env) :: assignEach r env := rfl
    rw [e]
    refine ⟨by rw [List.length_cons, List.length_cons, h1], ?_⟩
    rw [List.findIdx?_cons]
    simp [h2]
theorem setSs_len : ∀ {tg : List Nat} {xs : List D} {fr fr1 : Fr}, setSs C tg xs fr = .ok fr1 → xs.length = tg.length
  | [], [], _, _, _ => rfl
  | [], _ :: _, _, _, h => by cases h
  | _ :: _, [], _, _, h => by cases h
  | i :: is, m :: ms, fr, fr1, h => by
    obtain ⟨fr2, t1, t2⟩ := bind_ok (show ((setS C fr i (.d m)).bind fun fr => setSs C is ms fr) = .ok fr1 from h)
    rw [List.length_cons, List.length_cons, setSs_len t2]
theorem take_many {tg : List Nat} {d : D} {fr fr1 : Fr} (n : tg.length ≠ 1) (t : take C tg d fr = .ok fr1) : ∃ xs, d = .tuple xs ∧ setSs C tg xs fr = .ok fr1 := by
  unfold take at t
  split at t
  · exact absurd rfl n
  · split at t
    · exact ⟨_, rfl, t⟩
    · cases t
theorem sg_tup (h : XOk p N sc top X) {tg : List Nat} {ts : List Expr} {kk : Nat} {pos : Pos} (nm : ts.all isName = true) (hl : ts.length = tg.length) (n1 : tg.length ≠ 1) (ss : SGs p C X tg ts) : SG p C X tg (.Tuple ts kk pos) := by
  intro σ H F fr own d fr1 v Q f r t k
  obtain ⟨xs, rfl, t'⟩ := take_many n1 t
  obtain ⟨a, vs, rfl, ha, na, q⟩ := rp_tup r
  obtain ⟨l1, l2⟩ := ae_names (env := X.env) nm
  refine wg_of (pg_tup (n := ts.length) h.calm (pgs_wgs (e := ts)) l1 l2) ⟨a, vs, rfl, SqT.of ha, ?_, ?_⟩
  · rw [q.length, setSs_len t', hl]
  · exact ss σ H F fr own xs fr1 vs Q f q t' k

/-! ### frames with some slots wiped -/
theorem wipeF_get {fr : Fr} : ∀ {tg : List Nat} {j : Nat}, getS (wipeF fr tg) j = if j ∈ tg then none else getS fr j
  | [], j => by simp [wipeF]
  | i :: r, j => by
    unfold wipeF getS
    by_cases e : j = i
    · subst e
      simp only [List.mem_cons, true_or, if_true]
      by_cases hl : j < (wipeF fr r).length
      · rw [List.getElem?_set_self hl]; rfl
      · rw [List.getElem?_eq_none (by rw [List.length_set]; omega)]; rfl
    · rw [List.getElem?_set_ne (Ne.symm e)]
      have := wipeF_get (fr := fr) (tg := r) (j := j)
      unfold getS at this
      rw [this]
      simp [e]
theorem wipeF_length {fr : Fr} : ∀ {tg : List Nat}, (wipeF fr tg).length = fr.length
  | [] => rfl
  | i :: r => by unfold wipeF; rw [List.length_set, wipeF_length]
theorem restore_length {fr fr0 : Fr} : ∀ {tg : List Nat}, (restore fr fr0 tg).length = fr.length
  | [] => rfl
  | i :: r => by unfold restore; rw [List.length_set, restore_length]
theorem restore_get {fr fr0 : Fr} (hl : fr.length = fr0.length) : ∀ {tg : List Nat} {j : Nat}, getS (restore fr fr0 tg) j = if j ∈ tg then getS fr0 j else getS fr j
  | [], j => by simp [restore]
  | i :: r, j => by
    unfold restore
    by_cases e : j = i
    · subst e
      simp only [List.mem_cons, true_or, if_true]
      by_cases hb : j < (restore fr fr0 r).length
      · rw [getS_set hb, if_pos rfl]
      · rw [restore_length] at hb
        have z : getS fr0 j = none := by unfold getS; rw [List.getElem?_eq_none (by omega)]; rfl
        rw [z]
        unfold getS
        rw [List.getElem?_eq_none (by rw [List.length_set, restore_length]; omega)]; rfl
    · have : getS ((restore fr fr0 r).set i (getS fr0 i)) j = getS (restore fr fr0 r) j := by
        unfold getS; rw [List.getElem?_set_ne (Ne.symm e)]
      rw [this, restore_get hl]
      simp [e]
def ownW (own : Nat → AS) (tg : List Nat) : Nat → AS := fun j => if j ∈ tg then noA else own j
theorem ownW_sub {own : Nat → AS} {tg : List Nat} : ∀ a, Own (ownW own tg) a → Own own a := fun a ⟨j, z⟩ => by
  unfold ownW at z
  split at z
  · exact z.elim
  · exact ⟨j, z⟩
theorem FR.wiped {F : AS} {σ : L2.St} {H : Hp} {fr : Fr} {own : Nat → AS} {K : PySem.W.Frag} (tg : List Nat) (f : FR p K F σ H fr own) : FR p K F (L2.wipe σ tg) H (wipeF fr tg) (ownW own tg) := by
  have z0 : ∀ {j a}, ownW own tg j a → j ∉ tg ∧ own j a := fun {j a} z => by
    unfold ownW at z
    split at z
    · exact z.elim
    · exact ⟨by assumption, z⟩
  refine ⟨by rw [wipeF_length, wipe_length]; exact f.len, fun j m e => ?_, fun j e a z => ?_, fun j k a y z => ?_, fun j a z => f.forn j a (z0 z).2, f.trk⟩
  · rw [wipeF_get] at e
    split at e
    · cases e
    · rename_i n
      obtain ⟨v, h1, h2⟩ := f.slot j m e
      refine ⟨v, by rw [wipe_get, if_neg n]; exact h1, ?_⟩
      have : ownW own tg j = own j := by unfold ownW; rw [if_neg n]
      rw [this]
      exact h2.imp fun a z => z.imp id (ownW_sub a)
  · obtain ⟨n, z⟩ := z0 z
    rw [wipeF_get, if_neg n] at e
    exact f.non j e a z
  · exact f.disj j k a (z0 y).2 (z0 z).2
theorem bare_at {fr : Fr} {tg : List Nat} (h : bare fr tg = true) {j : Nat} (hj : j ∈ tg) : getS fr j = none ∨ ∃ x, getS fr j = some (.d x) := by
  unfold bare at h
  have := List.all_eq_true.mp h j hj
  split at this
  · exact .inl (by assumption)
  · exact .inr ⟨_, by assumption⟩
  · cases this
/-- back from a block -/
theorem FR.restored {F F' : AS} {σ : L2.St} {H H' : Hp} {fr fr0 : Fr} {own own0 : Nat → AS} {K : PySem.W.Frag} {tg : List Nat} {W' : AS} (f0 : FR p K F σ H fr0 own0) (f : FR p K F' (L2.wipe σ tg) H' (wipeF fr tg) own) (kt : KT K H') (st : Step H (Own own0) H' W') (tw : TrkA H' W') (aa : ∀ a, or_ F' (Own own) a → or_ F (Own own0) a ∨ W' a) (b : bare fr0 tg = true) : FR p K F' σ H' (restore fr fr0 tg) own := by
  have l1 : fr.length = σ.length := by have := f.len; rw [wipeF_length, wipe_length] at this; exact this
  have hl : fr.length = fr0.length := l1.trans f0.len.symm
  refine ⟨by rw [restore_length]; exact l1, fun j m e => ?_, fun j e a z => ?_, f.disj, f.forn, f.trk⟩
  · rw [restore_get hl] at e
    split at e
    · rename_i hj
      rcases bare_at b hj with z | ⟨x, z⟩
      · rw [z] at e; cases e
      · rw [z] at e
        cases e
        obtain ⟨v, h1, h2⟩ := f0.slot j _ z
        refine ⟨v, h1, .b (.d ?_ (f.non j (by rw [wipeF_get, if_pos hj])))⟩
        exact h2.dat.1.step (kk_of kt tw) st (fun a z => .inr z) aa
    · rename_i hj
      obtain ⟨v, h1, h2⟩ := f.slot j m (by rw [wipeF_get, if_neg hj]; exact e)
      rw [wipe_get, if_neg hj] at h1
      exact ⟨v, h1, h2⟩
  · by_cases hj : j ∈ tg
    · exact f.non j (by rw [wipeF_get, if_pos hj]) a z
    · rw [restore_get hl, if_neg hj] at e
      exact f.non j (by rw [wipeF_get, if_neg hj]; exact e) a z
theorem ItS.yg {K : PySem.W.Frag} {H H' : Hp} {J : It} {n i : Nat} {x : V} (h : ItS K H J n) (y : J.yld i H x H') : Grow H H' := by
  cases h with
  | lst _ _ => obtain ⟨rfl, _⟩ := y; exact fun _ _ e => e
  | tup _ _ => obtain ⟨rfl, _⟩ := y; exact fun _ _ e => e
  | rng => obtain ⟨rfl, _⟩ := y; exact fun _ _ e => e
  | zipL _ _ _ => obtain ⟨T, _, _, _, hT, rfl, _⟩ := y; exact grow_new hT
  | zipT _ _ _ => obtain ⟨T, _, _, _, hT, rfl, _⟩ := y; exact grow_new hT
theorem KT.down {K : PySem.W.Frag} {H H' : Hp} (kt : KT K H') (g : Grow H H') : KT K H := fun a o e => by
  cases q : H a with
  | none => rfl
  | some u => have := kt a o e; rw [g a u q] at this; cases this
end
end Mn
/-! Mn, part J: list comprehensions. -/
namespace Mn
open PySem L2 PySem.Spec RZ
open PyProof.Rows hiding St

section
variable {p : PC} {N : List Str} {sc : Scope} {top : Bool} {X : Cx} {C : Ctx}
def WTs (X : Cx) (ifs : List Expr) : TT := fun σ H Q => ∀ (pins : List (Addr × Obj)) (s : Shared), Inv X pins σ H s →
    wpAny (model X.prog X.w) X.A (forIn ifs true fun c b => if b = true then do let ok ← isTrue c X.env (eval c X.env); pure (ForInStep.yield ok) else pure (ForInStep.yield b)) (TP X pins σ Q) X.xe s
def STs (p : PC) (C : Ctx) (X : Cx) (c : CE) (ifs : List Expr) : Prop := ∀ (σ : L2.St) (H : Hp) (F : AS) (fr : Fr) (own : Nat → AS) (t : Bool) (fr1 : Fr) (Q : Bool → Hp → Prop), KT X.K H → FR p X.K F σ H fr own → evT C c fr = .ok (t, fr1) →
  (∀ H1, KT X.K H1 → PostT p X.K F σ H own fr1 H1 → Q t H1) → WTs X ifs σ H Q
theorem sts_nil : STs p C X .nil [] := by
  intro σ H F fr own t fr1 Q kt f ev k pins s I
  cases (show R.ok (true, fr) = .ok (t, fr1) from ev)
  exact pts_nil.run pins s σ H Q I (k H kt ⟨own, f, Step.refl _ _⟩)
theorem sts_one {c : CE} {e : Expr} (s : ST p C X c e) : STs p C X c [e] := fun σ H F fr own t fr1 Q kt f ev k pins s' I => (pts_one pt_wt).run pins s' σ H Q I (s σ H F fr own t fr1 Q kt f ev k)
abbrev blkE (X : Cx) (scope : Scope) (s : Shared) (H : Hp) (Ca : Addr) (cl : List (Str × Addr)) (fp : List Addr) : Cx := X.blk s H scope (compEnvC scope cl Ca X.env) fp
/-- in every block of that scope -/
def Blk (X : Cx) (scope : Scope) (P : Cx → Prop) : Prop := ∀ (s : Shared) (H : Hp) (Ca : Addr) (cl : List (Str × Addr)) (fp : List Addr), P (blkE X scope s H Ca cl fp)
theorem xok_blk (h : XOk p N sc top X) {scope : Scope} : Blk X scope (XOk p N (relS scope sc) false) := fun s H Ca cl fp =>
  ⟨h.n, h.nd, by show relS scope X.env.scope = _; rw [h.sc], h.calm, h.units, h.guards, h.blt, fun z => by cases z⟩
theorem Step.up {H H' : Hp} {W W' : AS} {H0 : Hp} {W0 : AS} (s : Step H0 W0 H W) (t : Step H W H' W') : Step H0 W0 H' W' := s.trans t
theorem ev_comp {tg : List Nat} {k : ItK} {it cond elt : CE} {fr fr1 : Fr} {m : M} (ev : evE C (.comp tg k it cond elt) fr = .ok (m, fr1)) : ∃ os fr2 ds ys fr3, evVs C it fr = .ok (os, fr2) ∧ iterD k os = some ds ∧ bare fr2 tg = true ∧
    compN tg (fun x fr => (take C tg x fr).bind fun fr => (evT C cond fr).bind fun (t, fr) => if t then (evE C elt fr).bind fun (m, fr) => match m.fz with | some y => .ok (some y, fr) | none => .stuck else .ok (none, fr)) ds fr2 = .ok (ys, fr3) ∧
    ys.length ≤ line ∧ m = .lst ys ∧ fr1 = restore fr3 fr2 tg := by
  obtain ⟨⟨os, fr2⟩, q1, q2⟩ := bind_ok (show ((evVs C it fr).bind fun (os, fr) => match iterD k os with
    | none => .stuck
    | some ds => if tg.any C.pin || !bare fr tg then .stuck else
      (compN tg (fun x fr => (take C tg x fr).bind fun fr => (evT C cond fr).bind fun (t, fr) =>
        if t then (evE C elt fr).bind fun (m, fr) => match m.fz with | some y => .ok (some y, fr) | none => .stuck else .ok (none, fr)) ds fr).bind fun (ys, fr1) =>
      if ys.length ≤ line then R.ok (M.lst ys, restore fr1 fr tg) else .stuck) = .ok (m, fr1) from ev)
  simp only at q2
  split at q2
  · cases q2
  · rename_i ds hd
    split at q2
    · cases q2
    · rename_i hb
      obtain ⟨⟨ys, fr3⟩, q3, q4⟩ := bind_ok q2
      simp only at q4
      split at q4
      · rename_i hy
        cases q4
        simp only [Bool.or_eq_true, Bool.not_eq_true', not_or, Bool.not_eq_false] at hb
        exact ⟨os, fr2, ds, ys, fr3, q1, hd, hb.2, q3, hy, rfl, rfl⟩
      · cases q4
/-- the state ahead of a turn -/
def Facts (p : PC) (K : PySem.W.Frag) (C : Ctx) (tg : List Nat) (turn : D → Fr → R (Option D × Fr)) (F : AS) (σ : L2.St) (H1 : Hp) (own1 : Nat → AS) (D0 : Addr) (J : It) (ds : List D) (ys : List D) (fr3 : Fr) (i : Nat) (H : Hp) : Prop :=
  ∃ (fri : Fr) (owni : Nat → AS) (acc : List V) (ys1 ys2 : List D), FR p K (or_ F fun a => a = D0) (L2.wipe σ tg) H (wipeF fri tg) owni ∧ H D0 = some (.lst acc) ∧ RpAll K H (or_ (or_ F fun a => a = D0) (Own owni)) acc ys1 ∧
    ItR K H (or_ (or_ F fun a => a = D0) (Own owni)) J ds ∧ compN tg turn (ds.drop i) fri = .ok (ys2, fr3) ∧ ys = ys1 ++ ys2 ∧ Step H1 (Own own1) H (or_ (Own owni) fun a => a = D0)
def gB (X : Cx) (scope : Scope) (tge : Expr) : TG := fun v σ H Q => ∀ s H0 Ca cl fp, WG (blkE X scope s H0 Ca cl fp) tge v σ H Q
def tB1 (X : Cx) (scope : Scope) (ifs : List Expr) : TT := fun σ H Q => ∀ s H0 Ca cl fp, WTs (blkE X scope s H0 Ca cl fp) ifs σ H Q
def eB (X : Cx) (scope : Scope) (ee : Expr) : TE := fun σ H Q => ∀ s H0 Ca cl fp, WE (blkE X scope s H0 Ca cl fp) ee σ H Q
theorem pg_b {scope : Scope} {tge : Expr} : ∀ (s : Shared) (H : Hp) (Ca : Addr) (cl : List (Str × Addr)) (fp : List Addr), PG (X.blk s H scope (compEnvC scope cl Ca X.env) fp) tge (gB X scope tge) := fun s H Ca cl fp => ⟨fun pins s' σ H' v u Q I r q => q s H Ca cl fp pins s' u I r⟩
theorem pt_b {scope : Scope} {ifs : List Expr} : ∀ (s : Shared) (H : Hp) (Ca : Addr) (cl : List (Str × Addr)) (fp : List Addr), PTs (X.blk s H scope (compEnvC scope cl Ca X.env) fp) ifs (tB1 X scope ifs) := fun s H Ca cl fp => ⟨fun pins s' σ H' Q I q => q s H Ca cl fp pins s' I⟩
theorem pe_b {scope : Scope} {ee : Expr} : ∀ (s : Shared) (H : Hp) (Ca : Addr) (cl : List (Str × Addr)) (fp : List Addr), PE (X.blk s H scope (compEnvC scope cl Ca X.env) fp) ee (eB X scope ee) := fun s H Ca cl fp => ⟨fun pins s' σ H' Q I q => q s H Ca cl fp pins s' I⟩
/-- the comprehension's reading -/
def SL (p : PC) (C : Ctx) (X : Cx) (c : CE) (t : TE) : Prop := ∀ (σ : L2.St) (H : Hp) (F : AS) (fr : Fr) (own : Nat → AS) (m : M) (fr1 : Fr) (Q : VK), KT X.K H → FR p X.K F σ H fr own → evE C c fr = .ok (m, fr1) →
  (∀ v H1, KT X.K H1 → Post p X.K (pureE c) F σ H own fr1 m v H1 → Q v H1) → t σ H (fun v H1 => KT X.K H1 → Q v H1)
theorem sl_comp {tg : List Nat} {k : ItK} {it cond elt : CE} {tge ie ee : Expr} {ifs : List Expr} {scope : Scope} (h : XOk p N sc top X) (si : SI p C X k it tge ie)
    (hg : Blk X scope fun Y => SG p C Y tg tge) (ht : Blk X scope fun Y => STs p C Y cond ifs) (he : Blk X scope fun Y => SE p C Y elt ee) : SL p C X (.comp tg k it cond elt) (tLc (WI X tge ie) (gB X scope tge) (tB1 X scope ifs) (eB X scope ee) tg) := by
  intro σ H F fr own0 m fr1 Q kt f ev kk
  obtain ⟨os, fr2, ds, ys, fr3, e1, e2, hb, e3, hy, rfl, rfl⟩ := ev_comp ev
  let te := eB X scope ee
  refine si σ H F fr own0 os ds fr2 _ kt f e1 e2 fun J H1 kt1 ⟨own1, f1, ir, s1⟩ => ?_
  intro D0 hD
  generalize hturn : (fun x fr => (take C tg x fr).bind fun fr => (evT C cond fr).bind fun (t, fr) => if t then (evE C elt fr).bind fun (m, fr) => match m.fz with | some y => R.ok (some y, fr) | none => .stuck else .ok (none, fr)) = turn at e3
  let Fd : AS := or_ F fun a => a = D0
  refine ⟨fun i m H' => m = ds.length - i ∧ i ≤ ds.length ∧ ItS X.K H' J ds.length ∧ (KT X.K H' → Facts p X.K C tg turn F σ H1 own1 D0 J ds ys fr3 i H'), ⟨ds.length, by simp, Nat.zero_le _, ir.s.grow (grow_new hD), fun kt2 => ?_⟩, ?_⟩
  · -- at the start
    have f2 := f1.grow (fp := fun a => a = D0) kt2 (grow_new hD) (fun a z => by rw [z]; exact hD) (fun a z => by rw [z]; exact ⟨_, upd_same, fun xs z => by cases z⟩)
    have s2 : Step H1 noA (upd H1 D0 (.lst [])) (fun a => a = D0) := step_new hD
    refine ⟨fr2, ownW own1 tg, [], [], ys, f2.wiped tg, upd_same, .nil, ?_, by rw [List.drop_zero]; exact e3, rfl, ?_⟩
    · refine ir.step (kk_new kt2) s2 (fun _ z => z.elim) fun a z => ?_
      rcases z with (z | z) | z
      · exact .inl (.inl z)
      · exact .inr z
      · exact .inl (.inr (ownW_sub a z))
    · refine ((s2.frame (Own own1)).sub (fun a z => z.elim False.elim id) fun a z => ?_)
      rcases z with z | z
      · exact .inr (ownW_sub a z)
      · exact .inl z
  · rintro i m H' ⟨rfl, hi, its, fa⟩
    by_cases hlt : i < ds.length
    · refine .inr ⟨its.go hlt, fun H'' => i + 1 ≤ ds.length ∧ ItS X.K H'' J ds.length ∧ (KT X.K H'' → Facts p X.K C tg turn F σ H1 own1 D0 J ds ys fr3 (i + 1) H''), fun H'' n => ⟨ds.length - (i + 1), by omega, rfl, n⟩, fun x H2 y => ?_⟩
      have g2 := its.yg y
      intro bs bH bC bcl bfp pins s u I r
      have kt2 : KT X.K H2 := kt_of (X := blkE X scope bs bH bC bcl bfp) I
      have kt' := kt2.down g2
      obtain ⟨fri, owni, acc, ys1, ys2, fi, hDi, ra, iri, en, eys, si'⟩ := fa kt'
      have tA := fi.all_trk
      have hdi : ds[i]? = some ds[i] := List.getElem?_eq_getElem hlt
      obtain ⟨rx, _, _⟩ := iri.yld tA hdi y kt2
      rw [List.drop_eq_getElem_cons hlt] at en
      obtain ⟨⟨o, fra⟩, n1, n2⟩ := bind_ok (show ((turn ds[i] (wipeF fri tg)).bind fun (o, fr) => (compN tg turn (ds.drop (i + 1)) fr).bind fun (ds, fr) => R.ok (match o with | some y => y :: ds | none => ds, fr)) = .ok (ys2, fr3) from en)
      obtain ⟨⟨ys3, fr4⟩, n3, n4⟩ := bind_ok n2
      cases n4
      rw [← hturn] at n1
      obtain ⟨frt, t1, t2⟩ := bind_ok n1
      obtain ⟨⟨b, frb⟩, t3, t4⟩ := bind_ok t2
      have st2 : Step H' noA H2 noA := ⟨fun a o e _ => g2 a o e, fun _ z => z.elim⟩
      have f2 : FR p X.K (or_ F fun a => a = D0) (L2.wipe σ tg) H2 (wipeF fri tg) owni := fi.stepW kt2 st2 (fun _ z => z.elim) (fun _ z => .inl z) (fi.trk.grow g2) (fun _ z => z.elim)
      -- what is kept from the start of the turn on
      have keep : ∀ {H3 : Hp} {own3 : Nat → AS} {σ3 : L2.St} {fr : Fr}, KT X.K H3 → FR p X.K (or_ F fun a => a = D0) σ3 H3 fr own3 → Step H2 (Own owni) H3 (Own own3) →
          H3 D0 = some (.lst acc) ∧ RpAll X.K H3 (or_ (or_ F fun a => a = D0) (Own own3)) acc ys1 ∧ ItR X.K H3 (or_ (or_ F fun a => a = D0) (Own own3)) J ds ∧ Step H1 (Own own1) H3 (or_ (Own own3) fun a => a = D0) := fun {H3 own3 σ3 fr} kt3 f3 st3 => by
        have st : Step H' (Own owni) H3 (Own own3) := ((st2.frame (Own owni)).sub (W1 := Own owni) (W1' := Own owni) (fun a z => z.elim False.elim id) (fun _ z => .inr z)).trans st3
        exact ⟨st.1 _ _ hDi fun ⟨j, z⟩ => fi.forn j _ z (.inr rfl), ra.step (kk_of kt3 f3.own_trk) st (fun a z => .inr z) (fun a z => z.elim (fun q => .inl (.inl q)) .inr), iri.step (kk_of kt3 f3.own_trk) st (fun a z => .inr z) (fun a z => z.elim (fun q => .inl (.inl q)) .inr), si'.trans (st.frame _)⟩
      -- the turn's end
      have done : ∀ {H3 : Hp} {own3 : Nat → AS} {σ3 : L2.St} {fr5 : Fr} {acc3 : List V} {ys0 ys5 ysr : List D}, KT X.K H3 → FR p X.K (or_ F fun a => a = D0) σ3 H3 fr5 own3 → Agree tg (L2.wipe σ tg) σ3 → H3 D0 = some (.lst acc3) → RpAll X.K H3 (or_ (or_ F fun a => a = D0) (Own own3)) acc3 ys5 →
          ItR X.K H3 (or_ (or_ F fun a => a = D0) (Own own3)) J ds → Step H1 (Own own1) H3 (or_ (Own own3) fun a => a = D0) → compN tg turn (ds.drop (i + 1)) fr5 = .ok (ysr, fr3) → ys = ys5 ++ ysr →
          i + 1 ≤ ds.length ∧ ItS X.K H3 J ds.length ∧ (KT X.K H3 → Facts p X.K C tg turn F σ H1 own1 D0 J ds ys fr3 (i + 1) H3) := fun {H3 own3 σ3 fr5 acc3 ys0 ys5 ysr} kt3 f3 ag hD3 ra3 ir3 s3 en3 ey3 => by
        refine ⟨hlt, ir3.s, fun _ => ⟨fr5, ownW own3 tg, acc3, ys5, ysr, ?_, hD3, ra3.imp fun a z => z.imp id (ownW_sub a), ir3.step (W := noA) (W' := noA) (fun _ _ _ z => z) ⟨fun _ _ e _ => e, fun _ z => z.elim⟩ (fun _ z => z.elim) (fun a z => .inl (z.imp id (ownW_sub a))), en3, ey3, s3.sub (fun _ z => z) fun a z => z.imp (ownW_sub a) id⟩⟩
        have := f3.wiped tg
        rw [wipe_agree ag, wipe_wipe] at this
        exact this
      refine hg bs bH bC bcl bfp (L2.wipe σ tg) H2 (or_ F fun a => a = D0) (wipeF fri tg) owni ds[i] frt x _ f2 rx t1 (fun σ3 ⟨own3, f3, s3, ag3⟩ => ⟨by rw [wipe_agree ag3, wipe_wipe], ?_⟩) pins s u I r
      intro cs cH cC ccl cfp
      refine ht cs cH cC ccl cfp σ3 H2 (or_ F fun a => a = D0) frt own3 b frb _ kt2 f3 t3 fun H3 kt3 ⟨own4, f4, s4⟩ => ?_
      cases b with
      | false =>
        cases (show R.ok (none, frb) = R.ok (o, fra) from t4)
        show i + 1 ≤ ds.length ∧ _
        obtain ⟨k1, k2, k3, k4⟩ := keep kt3 f4 (s3.trans s4)
        exact done (ys0 := ys) kt3 f4 ag3 k1 k2 k3 k4 n3 eys
      | true =>
        obtain ⟨⟨me, frc⟩, t5, t6⟩ := bind_ok (show ((evE C elt frb).bind fun (m, fr) => match m.fz with | some y => R.ok (some y, fr) | none => .stuck) = R.ok (o, fra) from t4)
        show te σ3 H3 _
        simp only at t6
        split at t6
        · rename_i ye hfz
          cases t6
          intro es eH eC ecl efp
          refine sv_elem (he es eH eC ecl efp) kt3 f4 t5 hfz fun v H5 kt5 ⟨own5, f5, r5, s5⟩ => ?_
          obtain ⟨k1, k2, k3, k4⟩ := keep kt5 f5 ((s3.trans s4).trans s5)
          refine ⟨acc, k1, ?_, ?_⟩
          · rw [← line_eq, k2.length]
            rw [eys, List.length_append] at hy
            simp only [List.length_cons] at hy
            omega
          · -- the list takes it
            have kt6 : KT X.K (upd H5 D0 (.lst (acc ++ [v]))) := fun a o e => by
              by_cases hb : a = D0
              · subst hb; have := kt5 a o e; rw [k1] at this; cases this
              · rw [upd_ne hb]; exact kt5 a o e
            have st6 : Step H5 (fun a => a = D0) (upd H5 D0 (.lst (acc ++ [v]))) noA := ⟨fun a o e n => by rw [upd_ne n]; exact e, fun _ z => z.elim⟩
            have tr6 : TrkA (upd H5 D0 (.lst (acc ++ [v]))) (or_ F fun a => a = D0) := fun a z => by
              by_cases hb : a = D0
              · subst hb; exact ⟨_, upd_same, fun xs z => by cases z⟩
              · obtain ⟨o, e, n⟩ := f5.trk a z
                exact ⟨o, by rw [upd_ne hb]; exact e, n⟩
            have f6 : FR p X.K (or_ F fun a => a = D0) σ3 (upd H5 D0 (.lst (acc ++ [v]))) _ own5 := f5.stepW kt6 st6 (fun a z => .inr z) (fun a z => .inl z) tr6 (fun _ z => z.elim)
            have r6 : RpAll X.K (upd H5 D0 (.lst (acc ++ [v]))) (or_ (or_ F fun a => a = D0) (Own own5)) (acc ++ [v]) (ys1 ++ [ye]) := (k2.append (.cons r5 .nil)).step (W := fun a => a = D0) (W' := noA) (fun _ _ _ z => z) st6 (fun a z => .inl (.inr z)) fun a z => .inl z
            have i6 : ItR X.K (upd H5 D0 (.lst (acc ++ [v]))) (or_ (or_ F fun a => a = D0) (Own own5)) J ds := k3.step (W := fun a => a = D0) (W' := noA) (fun _ _ _ z => z) st6 (fun a z => .inl (.inr z)) fun a z => .inl z
            have s6 : Step H1 (Own own1) (upd H5 D0 (.lst (acc ++ [v]))) (or_ (Own own5) fun a => a = D0) := k4.trans ((st6.frame (or_ (Own own5) fun a => a = D0)).sub (fun a z => z.elim .inr id) fun a z => .inr z)
            exact done (ys0 := ys) kt6 f6 ag3 upd_same r6 i6 s6 n3 (by rw [eys, List.append_assoc]; rfl)
        · cases t6
    · have e : i = ds.length := by omega
      subst e
      refine .inl ⟨its.stop (Nat.le_refl _), fun kt' => ?_⟩
      obtain ⟨fri, owni, acc, ys1, ys2, fi, hDi, ra, iri, en, eys, si'⟩ := fa kt'
      rw [List.drop_length] at en
      cases (show R.ok (([] : List D), fri) = .ok (ys2, fr3) from en)
      rw [List.append_nil] at eys
      subst eys
      have fr' := FR.restored f1 fi kt' si' (fi.own_trk.or fun a z => fi.trk a (.inr z)) (fun a z => ?_) hb
      · refine kk _ H' kt' ⟨owni, fun a => a = D0, fr', .b (.lst hDi ra fun _ => Iff.rfl), s1.trans si', fun z => by cases z⟩
      · rcases z with (z | z) | z
        · exact .inl (.inl z)
        · exact .inr (.inr z)
        · exact .inr (.inl z)
theorem se_comp {tg : List Nat} {k : ItK} {it cond elt : CE} {tge ie ee : Expr} {ifs : List Expr} {scope : Scope} {own : List (Str × Nat)} {pos : Pos} (h : XOk p N sc top X) (ok : BlkOk N sc scope own) (ho : own.map (·.2) = tg)
    (okI : okE ie = true) (sl : SL p C X (.comp tg k it cond elt) (tLc (WI X tge ie) (gB X scope tge) (tB1 X scope ifs) (eB X scope ee) tg)) : SE p C X (.comp tg k it cond elt) (.ListComp ee [⟨tge, ie, ifs, 0⟩] scope pos) := by
  intro σ H F fr own0 m fr1 Q kt f ev kk
  refine we_kt (we_of (pe_lc (own := own) h.calm (by rw [h.n]; exact h.nd) pi_wi (by rw [h.n, h.sc]; exact ok) pg_b pt_b pe_b (fold_ok okI)) ?_)
  rw [ho]
  exact sl σ H F fr own0 m fr1 Q kt f ev kk
end
end Mn
/-! Mn, part K: arguments lent and given back. -/
namespace Mn
open PySem L2 PySem.Spec RZ
open PyProof.Rows hiding St

def cons0 (f1 : AS) (o : Nat → AS) : Nat → AS
  | 0 => f1
  | j + 1 => o j
def sh (o : Nat → AS) : Nat → AS := fun j => o (j + 1)
theorem cons0_own {f1 : AS} {o : Nat → AS} : ∀ a, Own (cons0 f1 o) a ↔ f1 a ∨ Own o a := fun a =>
  ⟨fun ⟨j, z⟩ => match j, z with | 0, z => .inl z | j + 1, z => .inr ⟨j, z⟩, fun z => z.elim (fun z => ⟨0, z⟩) fun ⟨j, z⟩ => ⟨j + 1, z⟩⟩
section
variable {p : PC} {K : PySem.W.Frag} {H : Hp} {σ : L2.St}
theorem getS_cons0 {o : Option M} {fr : Fr} : getS (o :: fr) 0 = o := rfl
theorem getS_consS {o : Option M} {fr : Fr} {j : Nat} : getS (o :: fr) (j + 1) = getS fr j := by unfold getS; rw [List.getElem?_cons_succ]
theorem FR.cons {F f1 G : AS} {vs : List V} {ms : List M} {owa : Nat → AS} {v : V} {m : M} (f : FR p K (or_ (or_ F f1) G) (vs.map some) H (ms.map some) owa) (h : MR p K H (or_ (or_ F G) (or_ f1 (Own owa))) v m f1) (dj : ∀ a, f1 a → ¬ F a ∧ ¬ G a) : FR p K (or_ F G) ((v :: vs).map some) H ((m :: ms).map some) (cons0 f1 owa) := by
  refine ⟨by rw [List.map_cons, List.map_cons, List.length_cons, List.length_cons, f.len], fun j m' e => ?_, fun j e a z => ?_, fun j k a y z => ?_, fun j a z q => ?_, fun a z => f.trk a (z.elim (fun q => .inl (.inl q)) .inr)⟩
  · cases j with
    | zero =>
      cases e
      refine ⟨v, rfl, h.imp fun a z => ?_⟩
      rcases z with z | z
      · exact .inl z
      · exact .inr ((cons0_own a).mp z)
    | succ j =>
      rw [List.map_cons, getS_consS] at e
      obtain ⟨w, h1, h2⟩ := f.slot j m' e
      refine ⟨w, h1, h2.imp fun a z => ?_⟩
      rcases z with (z | z) | z
      · exact .inl (.inl (.inl z))
      · exact .inl (.inr z)
      · rcases (cons0_own a).mp z with z | z
        · exact .inl (.inl (.inr z))
        · exact .inr z
  · cases j with
    | zero => cases e
    | succ j =>
      rw [List.map_cons, getS_consS] at e
      exact f.non j e a z
  · cases j with
    | zero =>
      cases k with
      | zero => rfl
      | succ k => exact absurd (.inl (.inr y)) (f.forn k a z)
    | succ j =>
      cases k with
      | zero => exact absurd (.inl (.inr z)) (f.forn j a y)
      | succ k => rw [f.disj j k a y z]
  · cases j with
    | zero => rcases q with q | q; exact (dj a z).1 q; exact (dj a z).2 q
    | succ j => exact f.forn j a z (q.elim (fun q => .inl (.inl q)) .inr)
/-- the arguments go to the callee -/
theorem lend_ok : ∀ {os : List Opd} {vs : List V} {F fp : AS} {fr : Fr} {own : Nat → AS} {ms : List M} {fr1 : Fr}, FR p K (or_ F fp) σ H fr own → OpsR p K σ H (or_ (or_ F fp) (Own own)) os vs fp → (∀ a, fp a → ¬ F a) → lend os fr = some (ms, fr1) →
    ∃ owa own1, FR p K (or_ F (Own own1)) (vs.map some) H (ms.map some) owa ∧ FR p K (or_ F (Own owa)) σ H fr1 own1 ∧ (∀ a, Own owa a → fp a ∨ Own own a) ∧ (∀ a, Own own1 a → Own own a) ∧ ms.length = vs.length
  | _, _, F, fp, fr, own, ms, fr1, f, .nil h, dj, e => by
    cases e
    refine ⟨fun _ => noA, own, ⟨rfl, fun i m e => ?_, fun i e a z => z, fun i j a z => z.elim, fun i a z => z.elim, (show TrkA H F from fun a z => f.trk a (.inl z)).or f.own_trk⟩, f.weak fun a z => z.elim .inl fun ⟨_, z⟩ => z.elim, fun a ⟨_, z⟩ => z.elim, fun a z => z, rfl⟩
    unfold getS at e
    simp at e
  | _, _, F, fp, fr, own, ms, fr1, f, .v (m := m) (v := v) (os := os) (vs := vs) (f1 := f1) (f2 := f2) mr oo d ee, dj, e => by
    obtain ⟨⟨ms', fr'⟩, q1, q2⟩ := Option.bind_eq_some_iff.mp (show ((lend os fr).bind fun (ms, fr) => some (m :: ms, fr)) = some (ms, fr1) from e)
    cases q2
    have f' : FR p K (or_ (or_ F f1) f2) σ H fr own := f.weak fun a z => by
      rcases z with (z | z) | z
      · exact .inl z
      · exact .inr ((ee a).mpr (.inl z))
      · exact .inr ((ee a).mpr (.inr z))
    obtain ⟨owa, own1, g1, g2, g3, g4, g5⟩ := lend_ok (F := or_ F f1) (fp := f2) f' (oo.imp fun a z => by
      rcases z with ((z | z) | z) | z
      · exact .inl (.inl z)
      · exact .inl (.inr ((ee a).mpr (.inl z)))
      · exact .inl (.inr ((ee a).mpr (.inr z)))
      · exact .inr z) (fun a z q => q.elim (dj a ((ee a).mpr (.inr z))) fun q => d a q z) q1
    refine ⟨cons0 f1 owa, own1, FR.cons g1 (mr.imp fun a z => ?_) (fun a z => ⟨dj a ((ee a).mpr (.inl z)), fun ⟨j, q⟩ => g2.forn j a q (.inl (.inr z))⟩), g2.weak fun a z => ?_, fun a z => ?_, g4, by rw [List.length_cons, List.length_cons, g5]⟩
    · rcases z with (z | z) | (z | z)
      · exact .inl (.inl z)
      · exact .inr (g4 a z)
      · exact .inl (.inr ((ee a).mpr (.inl z)))
      · rcases g3 a z with z | z
        · exact .inl (.inr ((ee a).mpr (.inr z)))
        · exact .inr z
    · rcases z with z | z
      · exact .inl (.inl z)
      · rcases (cons0_own a).mp z with z | z
        · exact .inl (.inr z)
        · exact .inr z
    · rcases (cons0_own a).mp z with z | z
      · exact .inl ((ee a).mpr (.inl z))
      · exact (g3 a z).imp (fun z => (ee a).mpr (.inr z)) id
  | _, _, F, fp, fr, own, ms, fr1, f, .r (i := i) (v := v) (os := os) (vs := vs) hv oo, dj, e => by
    have e' : (match getS fr i with
      | some (.d x) => (lend os fr).bind fun (ms, fr) => some (M.d x :: ms, fr)
      | some m => (lend os (fr.set i none)).bind fun (ms, fr) => some (m :: ms, fr)
      | none => none) = some (ms, fr1) := e
    split at e'
    · rename_i x hx
      obtain ⟨⟨ms', fr'⟩, q1, q2⟩ := Option.bind_eq_some_iff.mp e'
      cases q2
      obtain ⟨owa, own1, g1, g2, g3, g4, g5⟩ := lend_ok f oo dj q1
      obtain ⟨w, h1, h2⟩ := f.slot i _ hx
      rw [hv] at h1; cases h1
      refine ⟨cons0 noA owa, own1, FR.cons (g1.weak fun a z => z.elim (fun q => .inl (q.elim id False.elim)) .inr) (.b (.d (h2.dat.1.imp fun a z => ?_) fun _ z => z)) (fun _ z => z.elim), g2.weak fun a z => z.imp id fun z => ((cons0_own a).mp z).elim False.elim id, fun a z => ((cons0_own a).mp z).elim False.elim (g3 a), g4, by rw [List.length_cons, List.length_cons, g5]⟩
      rcases z with (z | z) | (z | z)
      · exact .inl (.inl z)
      · exact .inr (g4 a z)
      · exact z.elim
      · exact (g3 a z).elim (fun q => .inl (.inr q)) .inr
    · rename_i m _ hm
      obtain ⟨⟨ms', fr'⟩, q1, q2⟩ := Option.bind_eq_some_iff.mp e'
      cases q2
      obtain ⟨w, h1, h2⟩ := f.slot i _ hm
      rw [hv] at h1; cases h1
      have sub : ∀ a, Own (pt own i noA) a → Own own a := fun a ⟨j, z⟩ => by
        by_cases q : j = i
        · subst q; rw [pt_same] at z; exact z.elim
        · rw [pt_ne q] at z; exact ⟨j, z⟩
      have fo : FR p K (or_ (or_ F (own i)) fp) σ H (fr.set i none) (pt own i noA) := f.out.weak fun a z => by
        rcases z with (z | z) | z
        · exact .inl (.inl z)
        · exact .inr z
        · exact .inl (.inr z)
      obtain ⟨owa, own1, g1, g2, g3, g4, g5⟩ := lend_ok (F := or_ F (own i)) fo (oo.imp fun a z => by
        rcases z with ((z | z) | z) | z
        · exact .inl (.inl z)
        · exact .inr ⟨i, z⟩
        · exact .inl (.inr z)
        · exact .inr (sub a z)) (fun a z q => q.elim (dj a z) fun q => f.forn i a q (.inr z)) q1
      refine ⟨cons0 (own i) owa, own1, FR.cons g1 (h2.imp fun a z => ?_) (fun a z => ⟨fun q => f.forn i a z (.inl q), fun ⟨j, q⟩ => g2.forn j a q (.inl (.inr z))⟩), g2.weak fun a z => ?_, fun a z => ?_, fun a z => sub a (g4 a z), by rw [List.length_cons, List.length_cons, g5]⟩
      · rcases z with (z | z) | (z | z)
        · exact .inl (.inl z)
        · exact .inr (sub a (g4 a z))
        · exact .inr ⟨i, z⟩
        · rcases g3 a z with z | z
          · exact .inl (.inr z)
          · exact .inr (sub a z)
      · rcases z with z | z
        · exact .inl (.inl z)
        · rcases (cons0_own a).mp z with z | z
          · exact .inl (.inr z)
          · exact .inr z
      · rcases (cons0_own a).mp z with z | z
        · exact .inr ⟨i, z⟩
        · exact (g3 a z).imp id (sub a)
    · cases e'
  | _, _, F, fp, fr, own, ms, fr1, f, .f h oo, dj, e => by cases e
/-- what comes back -/
theorem back_ok : ∀ {os : List Opd} {vs : List V} {R : AS} {out : Fr} {owo : Nat → AS} {fr : Fr} {own1 : Nat → AS}, FR p K (or_ R (Own owo)) σ H fr own1 →
    (∀ k m, getS out k = some m → ∃ v, vs[k]? = some v ∧ MR p K H (or_ (or_ R (Own own1)) (Own owo)) v m (owo k)) → (∀ i j a, owo i a → owo j a → i = j) → (∀ i a, owo i a → ¬ R a) → (∀ (k i : Nat), os[k]? = some (Opd.r i) → ∀ v, vs[k]? = some v → σ[i]? = some (some v)) →
    ∃ own2, FR p K R σ H (back os out fr) own2 ∧ ∀ a, Own own2 a → Own own1 a ∨ Own owo a
  | [], vs, R, out, owo, fr, own1, f, _, _, _, _ => ⟨own1, f.weak fun a z => .inl z, fun a z => .inl z⟩
  | o :: os, vs, R, [], owo, fr, own1, f, _, _, _, _ => ⟨own1, by
      have : back (o :: os) [] fr = fr := by cases o <;> rfl
      rw [this]; exact f.weak fun a z => .inl z, fun a z => .inl z⟩
  | o :: os, vs, R, q :: out, owo, fr, own1, f, h, dj, dR, ho => by
    have shsub : ∀ a, Own (sh owo) a → Own owo a := fun a ⟨j, z⟩ => ⟨j + 1, z⟩
    have skip : ∃ own2, FR p K R σ H (back os out fr) own2 ∧ ∀ a, Own own2 a → Own own1 a ∨ Own owo a := by
      obtain ⟨own2, g1, g2⟩ := back_ok (os := os) (vs := vs.drop 1) (R := R) (out := out) (owo := sh owo) (fr := fr) (own1 := own1) (f.weak fun a z => z.imp id (shsub a)) (fun k m e => by
        obtain ⟨v, h1, h2⟩ := h (k + 1) m (by rw [getS_consS]; exact e)
        exact ⟨v, by rw [List.getElem?_drop, Nat.add_comm]; exact h1, h2.imp fun a z => z.imp id (shsub a)⟩) (fun i j a y z => by have := dj (i + 1) (j + 1) a y z; omega) (fun i a z => dR (i + 1) a z) (fun k i e v ev => ho (k + 1) i (by rw [List.getElem?_cons_succ]; exact e) v (by rw [List.getElem?_drop, Nat.add_comm] at ev; exact ev))
      exact ⟨own2, g1, fun a z => (g2 a z).imp id (shsub a)⟩
    cases o with
    | v m => exact skip
    | f i n => exact skip
    | r i =>
      cases hq : getS fr i with
      | some m0 =>
        have : back (.r i :: os) (q :: out) fr = back os out fr := by
          show back os out (match getS fr i with | none => fr.set i q | some _ => fr) = _
          rw [hq]
        rw [this]; exact skip
      | none =>
        have eb : back (.r i :: os) (q :: out) fr = back os out (fr.set i q) := by
          show back os out (match getS fr i with | none => fr.set i q | some _ => fr) = _
          rw [hq]
        rw [eb]
        have step : ∃ own', FR p K (or_ R (Own (sh owo))) σ H (fr.set i q) own' ∧ ∀ a, Own own' a → Own own1 a ∨ owo 0 a := by
          cases q with
          | none =>
            refine ⟨pt own1 i noA, f.out.weak fun a z => ?_, fun a ⟨j, z⟩ => .inl ?_⟩
            · exact .inl (z.imp id (shsub a))
            · by_cases e : j = i
              · subst e; rw [pt_same] at z; exact z.elim
              · rw [pt_ne e] at z; exact ⟨j, z⟩
          | some m =>
            obtain ⟨v, h1, h2⟩ := h 0 m rfl
            have hσ := ho 0 i rfl v h1
            obtain ⟨hlt, hv⟩ := List.getElem?_eq_some_iff.mp hσ
            have fa := FR.asg (F := or_ R (Own (sh owo))) (fp := owo 0) (i := i) (v := v) (m := m) (f.weak fun a z => ?_) (h2.imp fun a z => ?_) (fun a z q => ?_) hlt
            · have eσ : σ.set i (some v) = σ := by rw [← hv, List.set_getElem_self]
              rw [eσ] at fa
              refine ⟨_, fa, fun a ⟨j, z⟩ => ?_⟩
              by_cases e : j = i
              · subst e; rw [pt_same] at z; exact .inr z
              · rw [pt_ne e] at z; exact .inl ⟨j, z⟩
            · rcases z with (z | z) | z
              · exact .inl z
              · exact .inr (shsub a z)
              · exact .inr ⟨0, z⟩
            · rcases z with ((z | z) | z) | z
              · exact .inl (.inl z)
              · exact .inr (shsub a z)
              · exact .inr ⟨0, z⟩
              · exact .inl (.inr z)
            · rcases q with q | ⟨j, q⟩
              · exact dR 0 a z q
              · have := dj 0 (j + 1) a z q; omega
        obtain ⟨own', fs, sub⟩ := step
        obtain ⟨own2, g1, g2⟩ := back_ok (os := os) (vs := vs.drop 1) (R := R) (out := out) (owo := sh owo) (fr := fr.set i q) (own1 := own') fs (fun k m e => by
          obtain ⟨v, h1, h2⟩ := h (k + 1) m (by rw [getS_consS]; exact e)
          refine ⟨v, by rw [List.getElem?_drop, Nat.add_comm]; exact h1, h2.imp fun a z => ?_⟩
          rcases z with (z | z) | z
          · exact .inl (.inl z)
          · rcases sub a z with z | z
            · exact .inl (.inr z)
            · exact .inr ⟨0, z⟩
          · exact .inr (shsub a z)) (fun i j a y z => by have := dj (i + 1) (j + 1) a y z; omega) (fun i a z => dR (i + 1) a z) (fun k i e v ev => ho (k + 1) i (by rw [List.getElem?_cons_succ]; exact e) v (by rw [List.getElem?_drop, Nat.add_comm] at ev; exact ev))
        refine ⟨own2, g1, fun a z => ?_⟩
        rcases g2 a z with z | z
        · exact (sub a z).imp id fun z => ⟨0, z⟩
        · exact .inr (shsub a z)
theorem OpsR.rat : ∀ {A : AS} {os : List Opd} {vs : List V} {fp : AS}, OpsR p K σ H A os vs fp → ∀ (k i : Nat), os[k]? = some (Opd.r i) → ∀ v, vs[k]? = some v → σ[i]? = some (some v)
  | _, _, _, _, .nil _, k, i, e, _, _ => by simp at e
  | _, _, _, _, .v _ oo _ _, 0, i, e, _, _ => by simp at e
  | _, _, _, _, .v _ oo _ _, k + 1, i, e, w, ew => OpsR.rat oo k i (by simpa using e) w (by simpa using ew)
  | _, _, _, _, .r hv oo, 0, i, e, w, ew => by
    simp at e ew
    subst e; subst ew
    exact hv
  | _, _, _, _, .r _ oo, k + 1, i, e, w, ew => OpsR.rat oo k i (by simpa using e) w (by simpa using ew)
  | _, _, _, _, .f _ oo, 0, i, e, _, _ => by simp at e
  | _, _, _, _, .f _ oo, k + 1, i, e, w, ew => OpsR.rat oo k i (by simpa using e) w (by simpa using ew)
end
end Mn
/-! Mn, part L: calls of the text's functions. -/
namespace Mn
open PySem L2 PySem.Spec RZ
open PyProof.Rows hiding St

def CXn : CXT := fun _ _ _ _ _ _ => False
/-- what a function promises -/
abbrev SpN := List V → Hp → VK → Prop
structure FnG (P : Program) (w : World) (K : PySem.W.Frag) (mg : Str → Option Value) (base : Heap) (k : Nat) (f : Addr) (fd : FuncData) (ps : List Str) (sp : SpN) : Prop where
  len : ∀ vs H Q, sp vs H Q → vs.length = ps.length
  run : ∀ (A : Around) (outer : List Env) (s : Shared) (H : Hp) (args : Args) (us : List Value) (vs : List V) (Q : VK) (E : XK), Room k A → A.guards = some [] → Env0 P w K mg base A outer s H → BindsTo s fd args (ps.zip us) → Vals vs us → sp vs H Q →
    codeAny (model P w) A (.call (.ref f) args) (CR CXn outer P w H s Q E) s
/-- by the machine's function -/
def spF (p : PC) (K : PySem.W.Frag) (cal : Nat → List M → R (M × Fr)) (f : Nat) : SpN := fun vs H Q =>
  ∃ (ms : List M) (F : AS) (own : Nat → AS) (r : M) (out : Fr), ms.length = vs.length ∧ FR p K F (vs.map some) H (ms.map some) own ∧ cal f ms = .ok (r, out) ∧
    ∀ v H' own' fp, KT K H' → FR p K (or_ F fp) (vs.map some) H' out own' → MR p K H' (or_ (or_ F fp) (Own own')) v r fp → Step H (Own own) H' (or_ (Own own') fp) → Q v H'
/-- where the text's functions stand -/
structure Lk where
  ad : Nat → Addr
  fd : Nat → FuncData
  nm : Nat → Str
  ps : Nat → List Str
structure FnSt (L : Lk) (K : PySem.W.Frag) (f : Nat) : Prop where
  keep : PySem.W.keepIn K (.ref (L.ad f)) = true
  binds : Binds K (L.fd f) (L.ps f) []
section
variable {p : PC} {N : List Str} {sc : Scope} {top : Bool} {X : Cx} {C : Ctx} {L : Lk} {k : Nat}
theorem run_fnG {f : Addr} {fd : FuncData} {ps : List Str} {sp : SpN} {pins : List (Addr × Obj)} {s : Shared} {σ : L2.St} {H : Hp} {Q : VK} {us : List Value} {vs : List V} {args : Args} (F : FnG X.prog X.w X.K X.mg X.base k f fd ps sp) (hr : Room k X.A) (hg : X.A.guards = some []) (hb : (us.length = ps.length) → BindsTo s fd args (ps.zip us))
    (I : Inv X pins σ H s) (r : Vals vs us) (h : sp vs H Q) : codeAny (model X.prog X.w) X.A (.call (.ref f) args) (fun r s' => match r with | .ok (.ret u) => EP X pins σ Q u s' | .ok _ => False | .error e => X.xe e s') s := by
  have hl : us.length = ps.length := by rw [← r.length]; exact F.len _ _ _ h
  refine codeAny_mono (F.run X.A X.stack s H args us vs Q (fun _ _ _ => True) hr hg I.env0 (hb hl) r h) fun r s' afterC => ?_
  cases r with
  | error e => exact False.elim afterC
  | ok fl =>
    cases fl with
    | ret u => exact I.after afterC
    | next => exact False.elim afterC
    | brk => exact False.elim afterC
    | cont => exact False.elim afterC
theorem call_fnG {f : Addr} {fd : FuncData} {ps : List Str} {sp : SpN} {pins : List (Addr × Obj)} {s : Shared} {σ : L2.St} {H : Hp} {Q : VK} {us : List Value} {vs : List V} (F : FnG X.prog X.w X.K X.mg X.base k f fd ps sp) (hr : Room k X.A) (hg : X.A.guards = some []) (hb : Binds X.K fd ps [])
    (I : Inv X pins σ H s) (r : Vals vs us) (h : sp vs H Q) : wpAny (model X.prog X.w) X.A (call (.ref f) us) (EP X pins σ Q) X.xe s := by
  refine wpAny_call (codeAny_mono (run_fnG (args := ⟨us, []⟩) F hr hg (fun hl => by have := hb s us I.kIn (by rw [List.append_nil]; exact hl); rw [List.append_nil] at this; exact this) I r h) fun r s' afterC => ?_)
  cases r with
  | error e => exact afterC
  | ok fl =>
    cases fl with
    | ret u => exact afterC
    | next => exact False.elim afterC
    | brk => exact False.elim afterC
    | cont => exact False.elim afterC
/-- f(..) -/
theorem pe_callG {f : Addr} {fd : FuncData} {ps : List Str} {sp : SpN} {x : Str} {pp pos : Pos} {es : List Expr} (F : FnG X.prog X.w X.K X.mg X.base k f fd ps sp) (hr : Room k X.A) (gu : X.A.guards = some []) (hg : Gl X x) (hm : X.mg x = some (.ref f)) (hk : PySem.W.keepIn X.K (.ref f) = true) (hb : Binds X.K fd ps [])
    (ok : es.all okE = true) (hdb : (x == ("__debug__" : Str)) = false) : PE X (.Call (.Name x pp) es [] pos) (fun σ H Q => WEs X es σ H fun vs H1 => sp vs H1 Q) := by
  refine ⟨?_⟩; intro pins s σ H Q I h
  refine wpAny_Call_Name_kw (ld_glob I hg hm (?_) hdb)
  cases es with
  | nil => exact PySem.W.callWith_K0 I.kIn hk (call_fnG (us := []) F hr gu hb I .nil h)
  | cons e es =>
    have ok' := ok
    rw [List.all_cons, Bool.and_eq_true] at ok
    refine PySem.W.callWith_K (h₀ := X.base) I.ok.mod.kin hk (thn ((pa_wes ok').run pos pins s σ H _ I h) fun us s1 ⟨vs, H1, I1, r, q⟩ => ⟨I1.kIn, ?_⟩) (star_ok ok.1) (pl_ok ok.2)
    exact call_fnG F hr gu hb I1 r q
/-- the machine's call, done by the function -/
theorem call_sp {F : AS} {σ : L2.St} {H0 H : Hp} {own0 own : Nat → AS} {fp : AS} {fr2 fr1 : Fr} {os : List Opd} {ms : List M} {vs : List V} {f : Nat} {r : M} {out : Fr} {Q : VK} (fr0 : FR p X.K F σ H0 fr1 own0 → True)
    (dF : ∀ a, fp a → ¬ F a) (f1 : FR p X.K (or_ F fp) σ H fr2 own) (oo : OpsR p X.K σ H (or_ (or_ F fp) (Own own)) os vs fp) (s1 : Step H0 (Own own0) H (or_ (Own own) fp)) (hl : lend os fr2 = some (ms, fr1)) (hc : C.cal f ms = .ok (r, out))
    (kk : ∀ v H1, KT X.K H1 → Post p X.K false F σ H0 own0 (back os out fr1) r v H1 → Q v H1) : spF p X.K C.cal f vs H Q := by
  obtain ⟨owa, own1, g1, g2, g3, g4, g5⟩ := lend_ok f1 oo dF hl
  refine ⟨ms, or_ F (Own own1), owa, r, out, g5, g1, hc, fun v H' own' fr' kt' fo mr st => kk v H' kt' ?_⟩
  have tw : TrkA H' (or_ (Own own') fr') := fo.own_trk.or fun a z => fo.trk a (.inr z)
  -- the caller's frame behind the call
  have f3 : FR p X.K (or_ (or_ F fr') (Own own')) σ H' fr1 own1 := g2.stepW kt' st (fun a z => .inr z) (fun a z => by
    rcases z with (z | z) | z
    · exact .inl (.inl z)
    · exact .inr (.inr z)
    · exact .inr (.inl z)) (fun a z => by
    rcases z with (z | z) | z
    · exact fo.trk a (.inl (.inl z))
    · exact fo.trk a (.inr z)
    · exact fo.own_trk a z) tw
  obtain ⟨own2, f4, sub⟩ := back_ok (os := os) (vs := vs) (R := or_ F fr') (out := out) (owo := own') f3 (fun j m e => by
    obtain ⟨w, h1, h2⟩ := fo.slot j m e
    refine ⟨w, ?_, h2.imp fun a z => ?_⟩
    · rw [List.getElem?_map] at h1
      cases q : vs[j]? with
      | none => rw [q] at h1; cases h1
      | some y => rw [q] at h1; cases h1; rfl
    · rcases z with ((z | z) | z) | z
      · exact .inl (.inl (.inl z))
      · exact .inl (.inr z)
      · exact .inl (.inl (.inr z))
      · exact .inr z) fo.disj (fun j a z q => fo.forn j a z (q.elim (fun q => .inl (.inl q)) .inr)) oo.rat
  have s2 : Step H (or_ (Own own) fp) H' (or_ (Own own2) fr') := by
    have : Step H (or_ (Own owa) (Own own1)) H' (or_ (or_ (Own own') fr') (Own own1)) := st.frame _
    refine this.sub (fun a z => ?_) fun a z => ?_
    · rcases z with z | z
      · exact (g3 a z).elim .inr .inl
      · exact .inl (g4 a z)
    · rcases z with z | z
      · rcases sub a z with z | z
        · exact .inr z
        · exact .inl (.inl z)
      · exact .inl (.inr z)
  refine ⟨own2, fr', f4, mr.imp fun a z => ?_, s1.trans s2, fun z => by cases z⟩
  rcases z with (z | z) | z
  · exact .inl (.inl (.inl z))
  · exact .inl (.inr z)
  · rcases sub a z with z | z
    · exact .inl (.inl (.inr z))
    · exact .inr z
theorem callR_ok {f : Nat} {os : List Opd} {fr fr1 : Fr} {m : M} (h : callR C f none os fr = .ok (m, fr1)) : ∃ ms fr2 out, lend os fr = some (ms, fr2) ∧ C.cal f ms = .ok (m, out) ∧ fr1 = back os out fr2 := by
  have h' : (match lend os fr with
    | none => R.stuck
    | some (ms, fr1) => match C.cal f ms with
      | .ok (r, out) => .ok (r, back os out fr1)
      | .exc e out => .exc e (back os out fr1)
      | .stuck => .stuck) = .ok (m, fr1) := h
  split at h'
  · cases h'
  · rename_i ms fr2 hl
    split at h'
    · rename_i r out hc
      cases h'
      exact ⟨ms, fr2, out, hl, hc, rfl⟩
    · cases h'
    · cases h'
/-- what the calls want of the context -/
structure CallOk (p : PC) (X : Cx) (C : Ctx) (L : Lk) (k : Nat) (f : Nat) : Prop where
  fn : FnG X.prog X.w X.K X.mg X.base k (L.ad f) (L.fd f) (L.ps f) (spF p X.K C.cal f)
  room : Room (k + 1) X.A
  st : FnSt L X.K f
theorem se_call {f : Nat} {cs : CE} {es : List Expr} {pp pos : Pos} (h : XOk p N sc top X) (co : CallOk p X C L k f) (hm : X.mg (L.nm f) = some (.ref (L.ad f))) (gl : glB sc (L.nm f) = true) (nd : (L.nm f == ("__debug__" : Str)) = false) (ok : es.all okE = true) (ss : SO p C X cs es) : SE p C X (.call f none cs) (.Call (.Name (L.nm f) pp) es [] pos) := by
  intro σ H F fr own m fr1 Q kt fr0 ev kk
  obtain ⟨⟨os, fr2⟩, q1, q2⟩ := bind_ok (show ((evOs C cs fr).bind fun (os, fr) => callR C f none os fr) = .ok (m, fr1) from ev)
  obtain ⟨ms, fr3, out, q3, q4, rfl⟩ := callR_ok q2
  refine we_of (pe_callG co.fn (co.room.mono (Nat.le_succ _)) h.guards (gl_of h gl) hm co.st.keep co.st.binds ok nd) ?_
  refine ss σ H F fr own os fr2 _ kt fr0 q1 fun vs H1 kt1 hl ⟨own1, fp, f1, o1, s1, _⟩ => ?_
  exact call_sp (fun _ => trivial) (Step.own_new fr0 s1) f1 o1 s1 q3 q4 fun v H2 kt2 po => kk v H2 kt2 po
/-! calls by keywords -/
/-- keywords named ks bind the parameters ps, the i-th by the keyword at pm's i-th place -/
def KwTo (K : PySem.W.Frag) (fd : FuncData) (ps ks : List Str) (pm : List Nat) : Prop := ∀ (s : Shared) (ws us : List Value), K.In s.heap → ws.length = ks.length → (pm.mapM fun i => ws[i]?) = some us → BindsTo s fd ⟨[], ks.zip ws⟩ (ps.zip us)
theorem pick_vals : ∀ {pm : List Nat} {vs : List V} {ws : List Value} {a : List V}, Vals vs ws → (pm.mapM fun i => vs[i]?) = some a → ∃ b, (pm.mapM fun i => ws[i]?) = some b ∧ Vals a b
  | [], vs, ws, a, r, h => by
    simp at h; subst h
    exact ⟨[], by simp, .nil⟩
  | i :: pm, vs, ws, a, r, h => by
    simp only [List.mapM_cons, Option.bind_eq_bind, Option.bind_eq_some_iff, Option.pure_def, Option.some.injEq] at h
    obtain ⟨v, h1, a', h2, rfl⟩ := h
    obtain ⟨b', e2, r2⟩ := pick_vals r h2
    have : ∃ w, ws[i]? = some w ∧ L2.RelV v w := by
      clear h2 e2 r2
      induction r generalizing i with
      | nil => simp at h1
      | cons r0 rs ih => cases i with
        | zero => simp at h1; subst h1; exact ⟨_, rfl, r0⟩
        | succ i => exact ih i (by simpa using h1)
    obtain ⟨w, e1, r1⟩ := this
    exact ⟨w :: b', by simp [List.mapM_cons, e1, e2], .cons r1 r2⟩
theorem kw_names {env : Env} {pos : Pos} : ∀ kws : List Keyword, (backToKw pos (keywordEach kws env)).map (·.1) = kws.map (·.arg)
  | [] => rfl
  | ⟨nm, e, kp⟩ :: r => congrArg (nm :: ·) (kw_names (env := env) (pos := pos) r)
theorem pk_wes : ∀ kws : List Keyword, PK X kws (WEs X (kws.map (·.value)))
  | [] => pk_nil
  | ⟨nm, e, kpos⟩ :: r => pk_cons (pe_we (e := e)) (pk_wes r)
theorem pe_callGk {f : Addr} {fd : FuncData} {ps ks : List Str} {pm : List Nat} {sp : SpN} {x : Str} {pp pos : Pos} {kws : List Keyword} (F : FnG X.prog X.w X.K X.mg X.base k f fd ps sp) (hr : Room k X.A) (gu : X.A.guards = some []) (hg : Gl X x) (hm : X.mg x = some (.ref f)) (hk : PySem.W.keepIn X.K (.ref f) = true) (kb : KwTo X.K fd ps ks pm)
    (hn : kws.map (·.arg) = ks.map some) (hpl : pm.length = ps.length) (hdb : (x == ("__debug__" : Str)) = false) : PE X (.Call (.Name x pp) [] kws pos) (fun σ H Q => WEs X (kws.map (·.value)) σ H fun vs H1 => vs.length = ks.length ∧ ∃ us, (pm.mapM fun i => vs[i]?) = some us ∧ sp us H1 Q) := by
  refine ⟨?_⟩; intro pins s σ H Q I h
  refine wpAny_Call_Name_kw (ld_glob I hg hm (?_) hdb)
  have e1 := kw_names (env := X.env) (pos := pos) kws
  have all1 : (backToKw pos (keywordEach kws X.env)).all (·.1.isSome) = true := by
    have : ((backToKw pos (keywordEach kws X.env)).map (·.1)).all (·.isSome) = true := by
      rw [e1, hn]
      simp
    simpa [List.all_map] using this
  have names : (backToKw pos (keywordEach kws X.env)).filterMap (·.1) = ks := by
    have : ((backToKw pos (keywordEach kws X.env)).map (·.1)).filterMap id = ks := by
      rw [e1, hn]
      simp
    simpa [List.filterMap_map] using this
  have plain : ((backTo pos (starEach [] X.env)).any (·.1) || (backToKw pos (keywordEach kws X.env)).any (·.1.isNone)) = false := by
    have h0 : (backTo pos (starEach [] X.env)).any (·.1) = false := rfl
    have : ((backToKw pos (keywordEach kws X.env)).map (·.1)).any (·.isNone) = false := by
      rw [e1, hn]
      simp
    rw [h0, Bool.false_or]
    simpa [List.any_map] using this
  refine PySem.W.callWith_KW0 (h₀ := X.base) I.ok.mod.kin hk all1 (thn ((pk_wes kws).run pos pins s σ H _ I h) fun ws s1 ⟨vs, H1, I1, r, q⟩ => ⟨I1.kIn, ?_⟩) plain
  obtain ⟨hl, us, hu, q⟩ := q
  obtain ⟨wv, ew, rw_⟩ := pick_vals r hu
  rw [names]
  refine wpAny_call (codeAny_mono (run_fnG (args := ⟨[] ++ [], ks.zip ws⟩) F hr gu (fun hl2 => kb s1 ws wv I1.kIn (by rw [← r.length]; exact hl) ew) I1 rw_ q) fun r s' afterC => ?_)
  cases r with
  | error e => exact afterC
  | ok fl =>
    cases fl with
    | ret u => exact afterC
    | next => exact False.elim afterC
    | brk => exact False.elim afterC
    | cont => exact False.elim afterC
theorem opsR_perm {σ : L2.St} {H : Hp} {A : AS} {l l' : List (Opd × V)} (pe : l.Perm l') : ∀ {fp : AS}, OpsR p X.K σ H A (l.map (·.1)) (l.map (·.2)) fp → OpsR p X.K σ H A (l'.map (·.1)) (l'.map (·.2)) fp := by
  induction pe with
  | nil => exact fun h => h
  | cons x _ ih =>
    intro fp h
    obtain ⟨o, v⟩ := x
    simp only [List.map_cons] at h ⊢
    cases h with
    | v mr oo d e => exact .v mr (ih oo) d e
    | r e oo => exact .r e (ih oo)
    | f e oo => exact .f e (ih oo)
  | swap x y l =>
    intro fp h
    obtain ⟨o, v⟩ := x
    obtain ⟨o2, v2⟩ := y
    simp only [List.map_cons] at h ⊢
    cases h with
    | v mr oo d e =>
      rename_i f1 f2
      cases oo with
      | v mr2 oo2 d2 e2 =>
        rename_i g1 g2
        refine .v (f2 := fun a => f1 a ∨ g2 a) mr2 (.v mr oo2 (fun a z q => d a z ((e2 a).mpr (.inr q))) fun a => Iff.rfl) (fun a z q => ?_) fun a => ?_
        · rcases q with q | q
          · exact d a q ((e2 a).mpr (.inl z))
          · exact d2 a z q
        · rw [e a, e2 a]
          exact ⟨fun h => h.elim (fun z => .inr (.inl z)) fun z => z.elim .inl fun z => .inr (.inr z), fun h => h.elim (fun z => .inr (.inl z)) fun z => z.elim .inl fun z => .inr (.inr z)⟩
      | r e2 oo2 => exact .r e2 (.v mr oo2 d e)
      | f e2 oo2 => exact .f e2 (.v mr oo2 d e)
    | r e oo =>
      cases oo with
      | v mr2 oo2 d2 e2 => exact .v mr2 (.r e oo2) d2 e2
      | r e2 oo2 => exact .r e2 (.r e oo2)
      | f e2 oo2 => exact .f e2 (.r e oo2)
    | f e oo =>
      cases oo with
      | v mr2 oo2 d2 e2 => exact .v mr2 (.f e oo2) d2 e2
      | r e2 oo2 => exact .r e2 (.f e oo2)
      | f e2 oo2 => exact .f e2 (.f e oo2)
  | trans _ _ ih1 ih2 => exact fun h => ih2 (ih1 h)
theorem opsR_len {σ : L2.St} {H : Hp} {A : AS} : ∀ {os : List Opd} {vs : List V} {fp : AS}, OpsR p X.K σ H A os vs fp → os.length = vs.length
  | _, _, _, .nil _ => rfl
  | _, _, _, .v _ oo _ _ => by rw [List.length_cons, List.length_cons, opsR_len oo]
  | _, _, _, .r _ oo => by rw [List.length_cons, List.length_cons, opsR_len oo]
  | _, _, _, .f _ oo => by rw [List.length_cons, List.length_cons, opsR_len oo]
theorem pick_some {α : Type} : ∀ {pm : List Nat} {l : List α}, (∀ i ∈ pm, i < l.length) → ∃ r, (pm.mapM fun i => l[i]?) = some r
  | [], l, _ => ⟨[], by simp⟩
  | i :: pm, l, h => by
    obtain ⟨r, e⟩ := pick_some (pm := pm) (l := l) fun j hj => h j (by simp [hj])
    exact ⟨l[i]'(h i (by simp)) :: r, by simp [List.mapM_cons, List.getElem?_eq_getElem (h i (by simp)), e]⟩
theorem pick_zip {α β : Type} : ∀ {pm : List Nat} {l : List α} {m : List β} {a : List α} {b : List β}, l.length = m.length → (pm.mapM fun i => l[i]?) = some a → (pm.mapM fun i => m[i]?) = some b → (pm.mapM fun i => (l.zip m)[i]?) = some (a.zip b) ∧ a.length = b.length
  | [], l, m, a, b, _, ha, hb => by
    simp at ha hb; subst ha hb; simp
  | i :: pm, l, m, a, b, hl, ha, hb => by
    simp only [List.mapM_cons, Option.bind_eq_bind, Option.bind_eq_some_iff, Option.pure_def, Option.some.injEq] at ha hb
    obtain ⟨x, h1, a', h2, rfl⟩ := ha
    obtain ⟨y, h3, b', h4, rfl⟩ := hb
    obtain ⟨e1, e2⟩ := pick_zip hl h2 h4
    refine ⟨?_, by simp [e2]⟩
    have hz : (l.zip m)[i]? = some (x, y) := List.getElem?_zip_eq_some.mpr ⟨h1, h3⟩
    rw [List.mapM_cons, hz, e1]
    rfl
theorem pick_perm {α : Type} {pm : List Nat} {l r : List α} (hp : pm.Perm (List.range l.length)) (h : (pm.mapM fun i => l[i]?) = some r) : r.Perm l := by
  have e1 : ∀ {pm : List Nat} {r : List α}, (pm.mapM fun i => l[i]?) = some r → r = pm.filterMap fun i => l[i]? := by
    intro pm
    induction pm with
    | nil => intro r h; simp at h; exact h.symm ▸ rfl
    | cons i pm ih =>
      intro r h
      simp only [List.mapM_cons, Option.bind_eq_bind, Option.bind_eq_some_iff, Option.pure_def, Option.some.injEq] at h
      obtain ⟨x, h1, a', h2, rfl⟩ := h
      rw [List.filterMap_cons, h1, ← ih h2]
  rw [e1 h]
  refine (hp.filterMap fun i => l[i]?).trans ?_
  have : (List.range l.length).filterMap (fun i => l[i]?) = l := by
    clear h hp e1
    refine List.ext_getElem? fun j => ?_
    have e2 : (List.range l.length).filterMap (fun i => l[i]?) = (List.range l.length).pmap (fun i (h : i < l.length) => l[i]) (fun i hi => by simpa using hi) := by
      have gen : ∀ (m : List Nat) (hm : ∀ i ∈ m, i < l.length), m.filterMap (fun i => l[i]?) = m.pmap (fun i (h : i < l.length) => l[i]) hm := by
        intro m
        induction m with
        | nil => intro _; rfl
        | cons i m ih =>
          intro hm
          have hi := hm i (by simp)
          rw [List.filterMap_cons, List.getElem?_eq_getElem hi, List.pmap_cons, ih fun j hj => hm j (by simp [hj])]
      exact gen _ _
    rw [e2]
    by_cases hj : j < l.length
    · rw [List.getElem?_eq_getElem (by simpa using hj), List.getElem?_eq_getElem hj]
      simp
    · rw [List.getElem?_eq_none (by simpa using hj), List.getElem?_eq_none (by simpa using hj)]
  rw [this]
theorem callR_okp {f : Nat} {pm : List Nat} {os : List Opd} {fr fr1 : Fr} {m : M} (h : callR C f (some pm) os fr = .ok (m, fr1)) : ∃ os2, (pm.mapM fun i => os[i]?) = some os2 ∧ callR C f none os2 fr = .ok (m, fr1) := by
  unfold callR at h
  simp only [pick] at h
  split at h
  · cases h
  · rename_i os2 e
    refine ⟨os2, e, ?_⟩
    unfold callR
    simp only [pick]
    exact h
theorem se_callk {f : Nat} {pm : List Nat} {ks : List Str} {cs : CE} {kws : List Keyword} {pp pos : Pos} (h : XOk p N sc top X) (co : CallOk p X C L k f) (hm : X.mg (L.nm f) = some (.ref (L.ad f))) (gl : glB sc (L.nm f) = true) (nd : (L.nm f == ("__debug__" : Str)) = false) (kb : KwTo X.K (L.fd f) (L.ps f) ks pm) (hn : kws.map (·.arg) = ks.map some) (hpl : pm.length = (L.ps f).length) (hpm : pm.Perm (List.range kws.length))
    (ss : SO p C X cs (kws.map (·.value))) : SE p C X (.call f (some pm) cs) (.Call (.Name (L.nm f) pp) [] kws pos) := by
  intro σ H F fr own m fr1 Q kt fr0 ev kk
  obtain ⟨⟨os, fr2⟩, q1, q2⟩ := bind_ok (show ((evOs C cs fr).bind fun (os, fr) => callR C f (some pm) os fr) = .ok (m, fr1) from ev)
  obtain ⟨os2, q2', q2⟩ := callR_okp q2
  obtain ⟨ms, fr3, out, q3, q4, rfl⟩ := callR_ok q2
  refine we_of (pe_callGk co.fn (co.room.mono (Nat.le_succ _)) h.guards (gl_of h gl) hm co.st.keep kb hn hpl nd) ?_
  have hkl : kws.length = ks.length := by simpa using congrArg List.length hn
  refine ss σ H F fr own os fr2 _ kt fr0 q1 fun vs H1 kt1 hl ⟨own1, fp, f1, o1, s1, _⟩ => ⟨by simpa [hkl] using hl, ?_⟩
  have hvl : vs.length = kws.length := by simpa using hl
  obtain ⟨us, hu⟩ := pick_some (pm := pm) (l := vs) fun i hi => by
    have := hpm.mem_iff.mp hi
    rw [hvl]; simpa using this
  have hol := opsR_len o1
  obtain ⟨e1, e2⟩ := pick_zip hol q2' hu
  have hz : (os.zip vs).length = kws.length := by simp [hol, hvl]
  have pz : (os2.zip us).Perm (os.zip vs) := pick_perm (by rw [hz]; exact hpm) e1
  have o2 : OpsR p X.K σ H1 (or_ (or_ F fp) (Own own1)) os2 us fp := by
    have a0 : OpsR p X.K σ H1 (or_ (or_ F fp) (Own own1)) ((os.zip vs).map (·.1)) ((os.zip vs).map (·.2)) fp := by
      rw [List.map_fst_zip (by omega), List.map_snd_zip (by omega)]
      exact o1
    have a1 := opsR_perm pz.symm a0
    rw [List.map_fst_zip (by omega), List.map_snd_zip (by omega)] at a1
    exact a1
  exact ⟨us, hu, call_sp (fun _ => trivial) (Step.own_new fr0 s1) f1 o2 s1 q3 q4 fun v H2 kt2 po => kk v H2 kt2 po⟩
end
end Mn
/-! Mn, part M: places; lists that change; fields; methods. -/
namespace Mn
open PySem L2 PySem.Spec RZ
open PyProof.Rows hiding St

/-- what stands at a place -/
def PlV (p : PC) (σ : L2.St) (H : Hp) : Pl → V → Prop
  | .v i, v => σ[i]? = some (some v)
  | .f i n, v => FldV p σ H i n v
def isC : M → Bool
  | .lst _ => true
  | .dic _ => true
  | _ => false
theorem fget_fput {n k : Nat} {m : M} : ∀ {fs : List (Nat × M)}, fget k (fput n m fs) = if k = n then some m else fget k fs
  | [] => by
    by_cases e : k = n
    · subst e; simp [fput, fget]
    · simp [fput, fget, e, Ne.symm e]
  | (j, u) :: r => by
    unfold fput
    by_cases e : j = n
    · subst e
      rw [if_pos rfl]
      unfold fget
      by_cases q : j = k
      · subst q; simp
      · rw [if_neg q, if_neg (Ne.symm q), if_neg q]
    · rw [if_neg e]
      unfold fget
      by_cases q : j = k
      · subst q; rw [if_pos rfl, if_neg e, if_pos rfl]
      · rw [if_neg q, if_neg q, fget_fput]
theorem fput_length {n : Nat} {m : M} : ∀ {fs : List (Nat × M)}, fget n fs ≠ none → (fput n m fs).length = fs.length
  | [], h => absurd rfl h
  | (j, u) :: r, h => by
    unfold fput
    by_cases e : j = n
    · rw [if_pos e]; rfl
    · rw [if_neg e, List.length_cons, List.length_cons, fput_length]
      unfold fget at h
      rw [if_neg e] at h
      exact h
section
variable {p : PC} {K : PySem.W.Frag} {σ : L2.St} {H : Hp} {F : AS} {fr : Fr} {own : Nat → AS}
theorem M0.con {A fp : AS} {v : V} {c : M} (h : M0 K H A v c fp) (i : isC c = true) : ∃ a, v = .ref a ∧ ∀ b, fp b ↔ b = a := by
  cases h with
  | d _ _ => cases i
  | lst _ _ f => exact ⟨_, rfl, f⟩
  | lck _ _ _ => cases i
  | dicK _ _ f => exact ⟨_, rfl, f⟩
  | dicT _ _ f => exact ⟨_, rfl, f⟩
/-- the thing at a place, and how the frame stands when it is changed -/
theorem FR.put {pl : Pl} {c : M} (f : FR p K F σ H fr own) (e : getP fr pl = some c) (ic : isC c = true) : ∃ (a : Addr) (fp : AS), PlV p σ H pl (.ref a) ∧ M0 K H (or_ F (Own own)) (.ref a) c fp ∧ (∀ b, fp b ↔ b = a) ∧ (∃ i, own i a) ∧
    ∀ o' m', KT K (upd H a o') → M0 K (upd H a o') (or_ F (Own own)) (.ref a) m' fp → FR p K F σ (upd H a o') (setP fr pl m') own := by
  have stp : ∀ a o', Step H (fun b => b = a) (upd H a o') noA := fun a o' => ⟨fun b u e n => by rw [upd_ne n]; exact e, fun _ z => z.elim⟩
  have trF : ∀ a o', (∃ i, own i a) → TrkA (upd H a o') F := fun a o' ⟨i, ha⟩ b z => by
    have hb : b ≠ a := fun w => f.forn i a ha (w ▸ z)
    obtain ⟨u, e, n⟩ := f.trk b z
    exact ⟨u, by rw [upd_ne hb]; exact e, n⟩
  have oth : ∀ a o' i, own i a → ∀ j m, j ≠ i → getS fr j = some m → ∃ v, σ[j]? = some (some v) ∧ MR p K (upd H a o') (or_ F (Own own)) v m (own j) := fun a o' i ha j m hj ej => by
    obtain ⟨v, h1, h2⟩ := f.slot j m ej
    exact ⟨v, h1, h2.step (W := fun b => b = a) (W' := noA) (fun _ _ _ z => z) (stp a o') (fun b z => by rw [z]; exact .inr ⟨i, ha⟩) (fun b z => .inl z) fun b z w => hj (f.disj j i a (w ▸ z) ha)⟩
  cases pl with
  | v i =>
    have e' : getS fr i = some c := e
    obtain ⟨v, h1, h2⟩ := f.slot i c e'
    cases h2 with
    | ins _ _ _ _ => cases ic
    | b h2 =>
      obtain ⟨a, rfl, fp⟩ := h2.con ic
      have oa : own i a := (fp a).mpr rfl
      refine ⟨a, own i, h1, h2, fp, ⟨i, oa⟩, fun o' m' kt hm => ⟨by show (fr.set i _).length = _; rw [List.length_set]; exact f.len, fun j m ej => ?_, fun j ej => ?_, f.disj, f.forn, trF a o' ⟨i, oa⟩⟩⟩
      · have hi := getS_lt e'
        have ej' : getS (fr.set i (some m')) j = some m := ej
        rw [getS_set hi] at ej'
        by_cases q : j = i
        · subst q
          rw [if_pos rfl] at ej'
          cases ej'
          exact ⟨_, h1, .b hm⟩
        · rw [if_neg q] at ej'
          exact oth a o' i oa j m q ej'
      · have hi := getS_lt e'
        have ej' : getS (fr.set i (some m')) j = none := ej
        rw [getS_set hi] at ej'
        by_cases q : j = i
        · rw [if_pos q] at ej'; cases ej'
        · rw [if_neg q] at ej'
          exact f.non j ej'
  | f i n =>
    have e' : (match getS fr i with
      | some (.ins _ fs) => fget n fs
      | _ => none) = some c := e
    split at e'
    · rename_i cc fs hs
      obtain ⟨v, h1, h2⟩ := f.slot i _ hs
      cases h2 with
      | b z => cases z
      | @ins ax dx _ fsV _ fo _ hx fl nx q =>
        obtain ⟨w, l1, l2⟩ := fl.has n c e'
        obtain ⟨a, rfl, fp⟩ := l2.con ic
        have foa : fo n a := (fp a).mpr rfl
        have oa : own i a := (q a).mpr (.inr ⟨n, foa⟩)
        have nax : ax ≠ a := fun w => nx n (w ▸ foa)
        refine ⟨a, fo n, ⟨ax, _, dx, fsV, h1, hx, l1⟩, l2, fp, ⟨i, oa⟩, fun o' m' kt hm => ?_⟩
        have es : setP fr (.f i n) m' = fr.set i (some (.ins cc (fput n m' fs))) := by
          show (match getS fr i with
            | some (.ins c fs) => fr.set i (some (.ins c (fput n m' fs)))
            | _ => fr) = _
          rw [hs]
        rw [es]
        have hi := getS_lt hs
        refine ⟨by rw [List.length_set]; exact f.len, fun j m ej => ?_, fun j ej => ?_, f.disj, f.forn, trF a o' ⟨i, oa⟩⟩
        · rw [getS_set hi] at ej
          by_cases qq : j = i
          · subst qq
            rw [if_pos rfl] at ej
            cases ej
            refine ⟨_, h1, .ins (by rw [upd_ne nax]; exact hx) ⟨fun k m hk => ?_, fun k hk => ?_, fun x v hx => ?_, fl.disj, ?_, fun k m hk => ?_⟩ nx q⟩
            · rw [fget_fput] at hk
              by_cases kn : k = n
              · subst kn
                rw [if_pos rfl] at hk
                cases hk
                exact ⟨_, l1, hm⟩
              · rw [if_neg kn] at hk
                obtain ⟨w, w1, w2⟩ := fl.has k m hk
                exact ⟨w, w1, w2.step (W := fun b => b = a) (W' := noA) (fun _ _ _ z => z) (stp a o') (fun b z => by rw [z]; exact .inr ⟨j, oa⟩) (fun b z => .inl z) fun b z y => kn (fl.disj k n a (y ▸ z) foa)⟩
            · rw [fget_fput] at hk
              by_cases kn : k = n
              · rw [if_pos kn] at hk; cases hk
              · rw [if_neg kn] at hk
                exact fl.no k hk
            · obtain ⟨k, k1, k2⟩ := fl.only x v hx
              refine ⟨k, k1, ?_⟩
              rw [fget_fput]
              by_cases kn : k = n
              · rw [if_pos kn]; simp
              · rw [if_neg kn]; exact k2
            · rw [fput_length (by rw [e']; simp)]; exact fl.few
            · rw [fget_fput] at hk
              by_cases kn : k = n
              · rw [kn]; exact fl.kn n c e'
              · rw [if_neg kn] at hk; exact fl.kn k m hk
          · rw [if_neg qq] at ej
            exact oth a o' i oa j m qq ej
        · rw [getS_set hi] at ej
          by_cases qq : j = i
          · rw [if_pos qq] at ej; cases ej
          · rw [if_neg qq] at ej
            exact f.non j ej
    · cases e'
end
section
variable {p : PC} {N : List Str} {sc : Scope} {top : Bool} {X : Cx} {C : Ctx} {L : Lk} {k : Nat}
/-- what the text's classes are -/
structure ClOk (p : PC) (K : PySem.W.Frag) : Prop where
  cls : ∀ c, Cls K (p.cls c)
  no : ∀ c n, p.kn n = true → NoAttr K (p.cls c) (p.fnm n)
/-- the text of a place -/
def plB (p : PC) (N : List Str) (sc : Scope) : Pl → Expr → Bool
  | .v i, .Name x _ => nameB N sc i x
  | .f i n, .Attribute (.Name x _) f _ => nameB N sc i x && decide (f = p.fnm n)
  | _, _ => false
theorem pe_pl (h : XOk p N sc top X) {pl : Pl} (cl : isV pl = false → ClOk p X.K) {e : Expr} (b : plB p N sc pl e = true) {F : AS} {σ : L2.St} {H : Hp} {fr : Fr} {own : Nat → AS} {c : M} {Q : VK} (f : FR p X.K F σ H fr own) (ep : getP fr pl = some c) (k : ∀ v, PlV p σ H pl v → Q v H) : WE X e σ H Q := by
  cases pl with
  | v i =>
    cases e <;> try (cases b; done)
    obtain ⟨v, h1, h2⟩ := f.slot i c ep
    exact we_of (pe_name h b) ⟨v, h1, k v h1⟩
  | f i n =>
    cases e <;> try (cases b; done)
    rename_i o a pos
    cases o <;> try (cases b; done)
    rename_i x pos'
    obtain ⟨b1, b2⟩ := Bool.and_eq_true_iff.mp (show (nameB N sc i x && decide (a = p.fnm n)) = true from b)
    have ea := of_decide_eq_true b2
    subst ea
    have e' : (match getS fr i with
      | some (.ins _ fs) => fget n fs
      | _ => none) = some c := ep
    split at e'
    · rename_i cc fs hs
      obtain ⟨v, h1, h2⟩ := f.slot i _ hs
      cases h2 with
      | b z => cases z
      | ins hx fl nx q =>
        obtain ⟨w, l1, l2⟩ := fl.has n c e'
        exact we_of (pe_fld (pe_name h b1) rfl) ⟨_, h1, _, _, _, _, w, rfl, hx, (cl rfl).cls _, (cl rfl).no _ _ (fl.kn n c e'), l1, k w ⟨_, _, _, _, h1, hx, l1⟩⟩
    · cases e'
theorem se_fld (h : XOk p N sc top X) (cl : ClOk p X.K) {i n : Nat} {e : Expr} (b : plB p N sc (.f i n) e = true) : SE p C X (.fld i n) e := by
  intro σ H F fr own m fr1 Q kt f ev k
  have ev' : (match getP fr (.f i n) with
    | some (.d x) => R.ok (M.d x, fr)
    | _ => .stuck) = .ok (m, fr1) := ev
  split at ev'
  · rename_i d hd
    cases ev'
    refine pe_pl h (fun _ => cl) b f hd fun v hv => k v H kt (post_same f ?_)
    have e' : (match getS fr i with
      | some (.ins _ fs) => fget n fs
      | _ => none) = some (.d d) := hd
    split at e'
    · rename_i cc fs hs
      obtain ⟨w, h1, h2⟩ := f.slot i _ hs
      cases h2 with
      | b z => cases z
      | ins hx fl nx q =>
        obtain ⟨w, l1, l2⟩ := fl.has n _ e'
        obtain ⟨a, _, _, _, a1, a2, a3⟩ := hv
        rw [h1] at a1; cases a1
        rw [hx] at a2; cases a2
        rw [l1] at a3; cases a3
        exact (MR.b (p := p) l2).dat.1
    · cases e'
  · cases ev'
theorem so_fbor (h : XOk p N sc top X) (cl : ClOk p X.K) {i n : Nat} {as : CE} {e : Expr} {es : List Expr} (b : plB p N sc (.f i n) e = true) (ss : SO p C X as es) : SO p C X (.cons (.fbor i n) as) (e :: es) := by
  intro σ H F fr own os fr1 Q kt f ev k
  have ev' : (if (getP fr (.f i n)).isSome && pureE as then (evOs C as fr).bind fun (os, fr) => R.ok (Opd.f i n :: os, fr) else .stuck) = R.ok (os, fr1) := ev
  split at ev'
  · rename_i hm
    obtain ⟨m1, m2⟩ := Bool.and_eq_true_iff.mp hm
    obtain ⟨c, hc⟩ := Option.isSome_iff_exists.mp m1
    obtain ⟨⟨os', fr3⟩, q3, q4⟩ := bind_ok ev'
    cases q4
    refine pe_pl h (fun _ => cl) b f hc fun v hv => ?_
    refine ss σ H F fr own os' fr1 _ kt f q3 fun vs H2 kt2 hl ⟨own2, fp2, f2, o2, s2, p2⟩ => ?_
    obtain ⟨e2, g2⟩ := p2 m2
    obtain ⟨a, C', dx, fs, a1, a2, a3⟩ := hv
    exact k _ H2 kt2 (by rw [List.length_cons, List.length_cons, hl]) ⟨own2, fp2, f2, .f ⟨a, C', dx, fs, a1, g2 _ _ a2, a3⟩ o2, s2, fun _ => p2 m2⟩
  · cases ev'

/-! ### lists that change -/
structure MtOk (nm : Str) (id : String) : Prop where
  slot : Slot "list" nm id
  ty : typeOf (.builtin id) = pure (.type "method_descriptor")
def rMt (X : Cx) (id : String) : V → List V → Hp → VK → Prop := fun x vs H Q => ∀ (pins : List (Addr × Obj)) (s : Shared) (σ : L2.St) (v : Value) (us : List Value), Inv X pins σ H s → RelV x v → Vals vs us → wpAny (model X.prog X.w) X.A (call (.builtin id) (v :: us)) (EP X pins σ Q) X.xe s
theorem mtr {id : String} : MtR X id (rMt X id) := fun pins s σ H x xs v us Q I rx r h => h pins s σ v us I rx r
theorem rmt_of {id : String} {r : V → List V → Hp → VK → Prop} (m : MtM X id r) {x : V} {vs : List V} {H : Hp} {Q : VK} (h : r x vs H Q) : rMt X id x vs H Q := fun pins s σ v us I rx rv => m pins s σ H x vs v us Q I rx rv h
theorem few_ok {cpos : Pos} {e : Expr} {env : Env} (ok : okE e = true) : ((backTo cpos (starEach [e] env)).all (fun x => !x.1) && (backToKw cpos (keywordEach [] env)).all (fun x => x.1.isSome)
      && decide ([e].length + ([] : List Keyword).length + (if ([] : List Keyword).isEmpty then 0 else 1) < 30)) = true := by
  have := pl_ok (pos := cpos) (env := env) (es := [e]) (by rw [List.all_cons, ok]; rfl)
  have h2 : (backTo cpos (starEach [e] env)).all (fun x => !x.1) = true := by
    rw [List.all_eq_true]
    intro x hx
    rw [List.any_eq_false] at this
    simpa using this x hx
  rw [h2]; rfl
theorem pe_mt1 (h : XOk p N sc top X) {i : Nat} {x nm : Str} {id : String} {px apos cpos : Pos} {e : Expr} (b : nameB N sc i x = true) (mo : MtOk nm id) (ok : okE e = true) (hline : (apos.endLine == cpos.line) = true) :
    PE X (.Call (.Attribute (.Name x px) nm apos) [e] [] cpos) (fun σ H Q => ∃ v, σ[i]? = some (some v) ∧ tyV X.K "list" v H ∧ WEs X [e] σ H fun vs H2 => rMt X id v vs H2 Q) :=
  pe_imp (pe_bm (o := .Name x px) PySem.F.plainAttrs_list mo.slot mo.ty mtr (pe_name h b) (pa_wes (es := [e]) (by rw [List.all_cons, ok]; rfl)) rfl (few_ok ok) hline (star_ok ok) (pl_ok (es := []) rfl)) fun σ H Q ⟨v, h1, h2, h3⟩ => ⟨v, h1, h2, h3⟩
theorem pe_mt0 (h : XOk p N sc top X) {i : Nat} {x nm : Str} {id : String} {px apos cpos : Pos} (b : nameB N sc i x = true) (mo : MtOk nm id) (hline : (apos.endLine == cpos.line) = true) :
    PE X (.Call (.Attribute (.Name x px) nm apos) [] [] cpos) (fun σ H Q => ∃ v, σ[i]? = some (some v) ∧ tyV X.K "list" v H ∧ rMt X id v [] H Q) :=
  pe_imp (pe_bm0 (o := .Name x px) PySem.F.plainAttrs_list mo.slot mo.ty mtr (pe_name h b) rfl hline) fun σ H Q ⟨v, h1, h2, h3⟩ => ⟨v, h1, h2, h3⟩
theorem kt_upd {K : PySem.W.Frag} {H : Hp} {a : Addr} {o o' : HO} (kt : KT K H) (e : H a = some o) : KT K (upd H a o') := fun b u q => by
  by_cases hb : b = a
  · subst hb; have := kt b u q; rw [e] at this; cases this
  · rw [upd_ne hb]; exact kt b u q
theorem mut_fin {K : PySem.W.Frag} {F : AS} {σ : L2.St} {H : Hp} {fr : Fr} {own : Nat → AS} {i : Nat} {xs : List D} (kt : KT K H) (f : FR p K F σ H fr own) (e : getS fr i = some (.lst xs)) : ∃ a vs, σ[i]? = some (some (.ref a)) ∧ H a = some (.lst vs) ∧ RpAll K H (or_ F (Own own)) vs xs ∧
    ∀ ws zs, RpAll K H (or_ F (Own own)) ws zs → FR p K F σ (upd H a (.lst ws)) (fr.set i (some (.lst zs))) own ∧ Step H (Own own) (upd H a (.lst ws)) (Own own) ∧ (∀ v d, Rp K H (or_ F (Own own)) v d → Rp K (upd H a (.lst ws)) (or_ F (Own own)) v d) ∧ KT K (upd H a (.lst ws)) := by
  obtain ⟨a, fp, h1, h2, h3, ⟨j, h4⟩, h5⟩ := f.put (pl := .v i) e rfl
  cases h2 with
  | @lst _ vs _ _ ha ra _ =>
    refine ⟨a, vs, h1, ha, ra, fun ws zs rw' => ?_⟩
    have kt' : KT K (upd H a (.lst ws)) := kt_upd kt ha
    have st : Step H (fun b => b = a) (upd H a (.lst ws)) noA := ⟨fun b u e n => by rw [upd_ne n]; exact e, fun _ z => z.elim⟩
    have wa : ∀ b, b = a → or_ F (Own own) b := fun b z => by rw [z]; exact .inr ⟨j, h4⟩
    refine ⟨h5 _ _ kt' (.lst upd_same (rw'.step (W := fun b => b = a) (W' := noA) (fun _ _ _ z => z) st wa fun b z => .inl z) h3), ?_, fun v d r => r.step (W := fun b => b = a) (W' := noA) (fun _ _ _ z => z) st wa fun b z => .inl z, kt'⟩
    exact (st.frame (Own own)).sub (fun b z => z.elim (fun q => by rw [q]; exact ⟨j, h4⟩) id) fun b z => .inr z
theorem post_mut {F : AS} {σ : L2.St} {H0 H1 H2 : Hp} {own0 own : Nat → AS} {fr1 : Fr} {x : D} {v : V} (s1 : Step H0 (Own own0) H1 (Own own)) (f : FR p X.K F σ H2 fr1 own) (s2 : Step H1 (Own own) H2 (Own own)) (r : Rp X.K H2 (or_ F (Own own)) v x) : Post p X.K false F σ H0 own0 fr1 (.d x) v H2 := post_of ⟨own, f, r, s1.trans s2⟩
theorem mt_app : MtOk "append" "list.append" := ⟨PySem.F.slot_list_append, PySem.F.type_list_append⟩
theorem mt_ext : MtOk "extend" "list.extend" := ⟨PySem.F.slot_list_extend, PySem.F.type_list_extend⟩
theorem mt_po : MtOk "pop" "list.pop" := ⟨PySem.F.slot_list_pop, PySem.F.type_list_pop⟩
theorem ty_list {σ : L2.St} {H : Hp} {F : AS} {fr : Fr} {own : Nat → AS} {i : Nat} {xs : List D} (kt : KT X.K H) (f : FR p X.K F σ H fr own) (e : getS fr i = some (.lst xs)) : ∃ a, σ[i]? = some (some (.ref a)) ∧ tyV X.K "list" (.ref a) H := by
  obtain ⟨a, vs, h1, h2, _⟩ := mut_fin kt f e
  exact ⟨a, h1, .inl ⟨rfl, vs, .inl (.inl h2)⟩⟩
theorem ev_mut {m : MOp} {i : Nat} {es : CE} {fr fr1 : Fr} {r : M} (ev : evE C (.mut m i es) fr = .ok (r, fr1)) (hm : m ≠ .extend) : ∃ xs0 ys fr2 xs zs d, getS fr i = some (.lst xs0) ∧ evVs C es fr = .ok (ys, fr2) ∧ getS fr2 i = some (.lst xs) ∧ mutV m xs ys = some (zs, d) ∧ r = .d d ∧ fr1 = fr2.set i (some (.lst zs)) := by
  have ev' : (match getS fr i with
    | some (.lst _) => if m = .extend then
        (evOs C es fr).bind fun (os, fr) => match os, getS fr i with
          | [.v (.lst ys)], some (.lst xs) => if xs.length + ys.length ≤ line then R.ok (M.d .none, fr.set i (some (.lst (xs ++ ys)))) else .stuck
          | _, _ => .stuck
      else (evVs C es fr).bind fun (ys, fr) => match getS fr i with
        | some (.lst xs) => match mutV m xs ys with
          | some (zs, r) => R.ok (M.d r, fr.set i (some (.lst zs)))
          | none => .stuck
        | _ => .stuck
    | _ => .stuck) = R.ok (r, fr1) := ev
  split at ev'
  · rename_i xs0 h0
    rw [if_neg hm] at ev'
    obtain ⟨⟨ys, fr2⟩, q1, q2⟩ := bind_ok ev'
    simp only at q2
    split at q2
    · rename_i xs hx
      split at q2
      · rename_i zs d hz
        cases q2
        exact ⟨xs0, ys, fr2, xs, zs, d, h0, q1, hx, hz, rfl, rfl⟩
      · cases q2
    · cases q2
  · cases ev'
theorem ev_ext {i : Nat} {es : CE} {fr fr1 : Fr} {r : M} (ev : evE C (.mut .extend i es) fr = .ok (r, fr1)) : ∃ xs0 ys fr2 xs, getS fr i = some (.lst xs0) ∧ evOs C es fr = .ok ([.v (.lst ys)], fr2) ∧ getS fr2 i = some (.lst xs) ∧ xs.length + ys.length ≤ line ∧ r = .d .none ∧ fr1 = fr2.set i (some (.lst (xs ++ ys))) := by
  have ev' : (match getS fr i with
    | some (.lst _) => (evOs C es fr).bind fun (os, fr) => match os, getS fr i with
          | [.v (.lst ys)], some (.lst xs) => if xs.length + ys.length ≤ line then R.ok (M.d .none, fr.set i (some (.lst (xs ++ ys)))) else .stuck
          | _, _ => .stuck
    | _ => .stuck) = R.ok (r, fr1) := ev
  split at ev'
  · rename_i xs0 h0
    obtain ⟨⟨ys, fr2⟩, q1, q2⟩ := bind_ok ev'
    simp only at q2
    split at q2
    · rename_i _ ys' xs hx
      split at q2
      · cases q2
        exact ⟨xs0, _, fr2, _, h0, q1, hx, by assumption, rfl, rfl⟩
      · cases q2
    · cases q2
  · cases ev'
theorem se_append (h : XOk p N sc top X) {i : Nat} {x : Str} {px apos cpos : Pos} {cs : CE} {e : Expr} (b : nameB N sc i x = true) (ok : okE e = true) (hline : (apos.endLine == cpos.line) = true) (ss : SV p C X cs [e]) : SE p C X (.mut .append i cs) (.Call (.Attribute (.Name x px) "append" apos) [e] [] cpos) := by
  intro σ H F fr own m fr1 Q kt f ev k
  obtain ⟨xs0, ys, fr2, xs, zs, d, h0, e1, e2, e3, rfl, rfl⟩ := ev_mut ev (by decide)
  obtain ⟨a0, p1, p2⟩ := ty_list kt f h0
  refine we_kt (we_of (pe_mt1 h b mt_app ok hline) ⟨_, p1, p2, ?_⟩)
  refine ss σ H F fr own ys fr2 _ kt f e1 fun vs H1 kt1 hl ⟨own1, f1, r1, s1⟩ => ?_
  obtain ⟨a, ws, q1, q2, q3, q4⟩ := mut_fin kt1 f1 e2
  rw [p1] at q1; cases q1
  cases r1 with
  | nil => cases hl
  | cons r rr =>
    cases rr with
    | cons _ _ => simp at hl
    | nil =>
      have e3' : (if xs.length < line then some (xs ++ [_], PyData.none) else none) = some (zs, d) := e3
      split at e3'
      · rename_i hz
        cases e3'
        obtain ⟨g1, g2, g3, g4⟩ := q4 _ _ (q3.append (.cons r .nil))
        refine rmt_of mt_append ⟨_, ws, _, rfl, rfl, q2, by rw [q3.length, ← line_eq]; exact hz, fun kt2 => k _ _ kt2 (post_mut s1 g1 g2 (.none))⟩
      · cases e3'
theorem place_ix' {i : Int} {n k : Nat} (h : place i n = some k) : seqIndex? i n = some k := by
  unfold place at h
  split at h
  · split at h
    · cases h
      exact seqIndex_of (by assumption) (by assumption)
    · cases h
  · split at h
    · rename_i h0 h1
      cases h
      exact seqIndex_neg (by omega) h1
    · cases h
theorem mut_pop1 {xs ys zs : List D} {d : D} (h : mutV .pop1 xs ys = some (zs, d)) : ∃ j n, ys = [.int j] ∧ smallI j = true ∧ place j xs.length = some n ∧ xs[n]? = some d ∧ zs = xs.eraseIdx n := by
  unfold mutV at h
  split at h
  · contradiction
  · contradiction
  · split at h
    · rename_i g
      obtain ⟨n, n1, n2⟩ := Option.bind_eq_some_iff.mp h
      obtain ⟨y, n3, n4⟩ := Option.map_eq_some_iff.mp n2
      cases n4
      exact ⟨_, n, rfl, g, n1, n3, rfl⟩
    · cases h
  · cases h
theorem se_pop1 (h : XOk p N sc top X) {i : Nat} {x : Str} {px apos cpos : Pos} {cs : CE} {e : Expr} (b : nameB N sc i x = true) (ok : okE e = true) (hline : (apos.endLine == cpos.line) = true) (ss : SV p C X cs [e]) : SE p C X (.mut .pop1 i cs) (.Call (.Attribute (.Name x px) "pop" apos) [e] [] cpos) := by
  intro σ H F fr own m fr1 Q kt f ev k
  obtain ⟨xs0, ys, fr2, xs, zs, d, h0, e1, e2, e3, rfl, rfl⟩ := ev_mut ev (by decide)
  obtain ⟨j, n, rfl, g, n1, n3, rfl⟩ := mut_pop1 e3
  obtain ⟨a0, p1, p2⟩ := ty_list kt f h0
  refine we_kt (we_of (pe_mt1 h b mt_po ok hline) ⟨_, p1, p2, ?_⟩)
  refine ss σ H F fr own _ fr2 _ kt f e1 fun vs H1 kt1 hl ⟨own1, f1, r1, s1⟩ => ?_
  obtain ⟨a, ws, q1, q2, q3, q4⟩ := mut_fin kt1 f1 e2
  rw [p1] at q1; cases q1
  obtain ⟨v, rfl, r⟩ := rpall1 r1
  obtain ⟨g1, g2⟩ := small_of g
  obtain ⟨vy, w1, w2⟩ := q3.get n3
  obtain ⟨t1, t2, t3, t4⟩ := q4 _ _ (q3.erase n)
  exact rmt_of mt_popAt ⟨_, ws, j, n, vy, rfl, by rw [rp_int r], q2, by omega, by omega, place_ix' (by rw [q3.length]; exact n1), w1, fun kt2 => k _ _ kt2 (post_mut s1 t1 t2 (t3 _ _ w2))⟩
theorem se_extend (h : XOk p N sc top X) {i : Nat} {x : Str} {px apos cpos : Pos} {cs : CE} {e : Expr} (b : nameB N sc i x = true) (ok : okE e = true) (hline : (apos.endLine == cpos.line) = true) (ss : SO p C X cs [e]) : SE p C X (.mut .extend i cs) (.Call (.Attribute (.Name x px) "extend" apos) [e] [] cpos) := by
  intro σ H F fr own m fr1 Q kt f ev k
  obtain ⟨xs0, ys, fr2, xs, h0, e1, e2, e3, rfl, rfl⟩ := ev_ext ev
  obtain ⟨a0, p1, p2⟩ := ty_list kt f h0
  refine we_kt (we_of (pe_mt1 h b mt_ext ok hline) ⟨_, p1, p2, ?_⟩)
  refine ss σ H F fr own _ fr2 _ kt f e1 fun vs H1 kt1 hl ⟨own1, fp, f1, o1, s1, _⟩ => ?_
  obtain ⟨a, ws, q1, q2, q3, q4⟩ := mut_fin kt1 (f1.weak fun a z => .inl z) e2
  rw [p1] at q1; cases q1
  cases o1 with
  | v mr oo dj ee =>
    cases oo with
    | nil _ =>
      obtain ⟨b', us, rfl, hb, rb, _⟩ := mr.lst
      have rb' := rb.imp (A' := or_ F (Own own1)) fun a z => z.elim (fun q => .inl (.inl q)) .inr
      obtain ⟨t1, t2, t3, t4⟩ := q4 _ _ (q3.append rb')
      refine rmt_of mt_extend ⟨_, b', ws, us, rfl, rfl, q2, hb, by rw [q3.length, rb.length, ← line_eq]; exact e3, fun kt2 => k _ _ kt2 (post_mut (s1.sub (fun _ z => z) fun a z => .inl z) t1 t2 .none)⟩
theorem se_pop0 (h : XOk p N sc top X) {i : Nat} {x : Str} {px apos cpos : Pos} (b : nameB N sc i x = true) (hline : (apos.endLine == cpos.line) = true) : SE p C X (.mut .pop0 i .nil) (.Call (.Attribute (.Name x px) "pop" apos) [] [] cpos) := by
  intro σ H F fr own m fr1 Q kt f ev k
  obtain ⟨xs0, ys, fr2, xs, zs, d, h0, e1, e2, e3, rfl, rfl⟩ := ev_mut ev (by decide)
  cases (show R.ok (([] : List D), fr) = .ok (ys, fr2) from e1)
  obtain ⟨a, ws, q1, q2, q3, q4⟩ := mut_fin kt f e2
  have p2 : tyV X.K "list" (.ref a) H := .inl ⟨rfl, ws, .inl (.inl q2)⟩
  refine we_kt (we_of (pe_mt0 h b mt_po hline) ⟨_, q1, p2, ?_⟩)
  have e3' : (xs.getLast?).map (fun x => (xs.dropLast, x)) = some (zs, d) := e3
  obtain ⟨y, n1, n2⟩ := Option.map_eq_some_iff.mp e3'
  cases n2
  rw [List.getLast?_eq_getElem?] at n1
  obtain ⟨vy, w1, w2⟩ := q3.get n1
  obtain ⟨t1, t2, t3, t4⟩ := q4 _ _ q3.dropLast
  exact rmt_of mt_pop ⟨_, ws, vy, rfl, rfl, q2, by rw [q3.length]; exact w1, fun kt2 => k _ _ kt2 (post_mut (Step.refl _ _) t1 t2 (t3 _ _ w2))⟩
end
end Mn
/-! Mn, part N: methods, instances made. -/
namespace Mn
open PySem L2 PySem.Spec RZ
open PyProof.Rows hiding St

section
variable {p : PC} {N : List Str} {sc : Scope} {top : Bool} {X : Cx} {C : Ctx} {L : Lk} {k : Nat}
theorem form_ok {pos : Pos} {args : List Expr} {env : Env} (ok : args.all okE = true) (few : args.length < 20) : methodCallForm (args.length + ([] : List Keyword).length) (backTo pos (starEach args env)) (backToKw pos (keywordEach [] env)) = true := by
  have := pl_ok (pos := pos) (env := env) ok
  have h2 : (backTo pos (starEach args env)).all (fun x => !x.1) = true := by
    rw [List.all_eq_true]
    intro x hx
    rw [List.any_eq_false] at this
    simpa using this x hx
  unfold methodCallForm
  rw [h2]
  have h3 : args.length + ([] : List Keyword).length + (if (backToKw pos (keywordEach [] env)).isEmpty then 0 else 1) < 30 := by
    have : (if (backToKw pos (keywordEach [] env)).isEmpty then 0 else 1) ≤ 1 := by split <;> omega
    rw [List.length_nil]; omega
  rw [decide_eq_true h3]
  rfl
theorem meth_tree {o : Expr} {m : Str} {apos pos : Pos} {args : List Expr} {env : Env} (hb : attributeBase o m env (eval o env) = eval o env) (ok : args.all okE = true) (few : args.length < 20) (hline : (apos.endLine == pos.line) = true) :
    eval (.Call (.Attribute o m apos) args [] pos) env = (do
      let ov ← eval o env
      standAt apos.atName
      let (f, first) ← holding [ov] (getMethod ov m (do return (← importBound o env).getD true))
      callWith pos f first (backTo pos (starEach args env)) (backToKw pos (keywordEach [] env))) := by
  refine mcall_of (kws := []) hb fun ov => ?_
  unfold methodCall
  rw [form_ok ok few]
  unfold methodCallPos
  simp only [calleeOf, Bool.not_true, Bool.false_or, hline, if_true, pure_bind]
/-- what a method of the text must be -/
structure MeOk (p : PC) (L : Lk) (K : PySem.W.Frag) (c f : Nat) (m : Str) : Prop where
  me : Meth K (p.cls c) m (L.ad f)
  no : ∀ n, p.kn n = true → p.fnm n ≠ m
theorem pe_methG {f c : Nat} {sp : SpN} {o : Expr} {m : Str} {apos pos : Pos} {es : List Expr} (F : FnG X.prog X.w X.K X.mg X.base k (L.ad f) (L.fd f) (L.ps f) sp) (hr : Room k X.A) (gu : X.A.guards = some []) (cl : ClOk p X.K) (me : MeOk p L X.K c f m) (hbi : Binds X.K (L.fd f) (L.ps f) [])
    (hb : attributeBase o m X.env (eval o X.env) = eval o X.env) (ok : es.all okE = true) (few : es.length < 20) (hline : (apos.endLine == pos.line) = true) :
    PE X (.Call (.Attribute o m apos) es [] pos) (fun σ H Q => WE X o σ H fun v H1 => (∃ a dx fs, v = .ref a ∧ H1 a = some (.ins (p.cls c) dx fs) ∧ fs.lookup m = none) ∧ WEs X es σ H1 fun vs H2 => sp (v :: vs) H2 Q) := by
  refine ⟨?_⟩; intro pins s σ H Q I h
  refine PySem.W.methodCall_KW (pl := (do return (← importBound o X.env).getD true)) (thn (h pins s I) fun u s1 ⟨x, H1, I1, rux, ⟨a, dx, fs, ex, ea, l⟩, q⟩ => ?_) (meth_tree hb ok few hline)
  subst ex
  obtain rfl : u = Value.ref a := rux
  refine getmeth_ok I1 ea (cl.cls c) me.me l ?_
  cases es with
  | nil => exact PySem.W.callWith_K0 (first := [.ref a]) I1.kIn me.me.kp (call_fnG (us := [.ref a]) (vs := [.ref a]) F hr gu hbi I1 (.cons rfl .nil) q)
  | cons e es =>
    have ok' := ok
    rw [List.all_cons, Bool.and_eq_true] at ok
    refine PySem.W.callWith_K (first := [.ref a]) (h₀ := X.base) I.ok.mod.kin me.me.kp (thn ((pa_wes ok').run pos pins s1 σ H1 _ I1 q) fun us s2 ⟨vs, H2, I2, r, q2⟩ => ⟨I2.kIn, ?_⟩) (star_ok ok.1) (pl_ok ok.2)
    exact call_fnG (us := .ref a :: us) (vs := .ref a :: vs) F hr gu hbi I2 (.cons rfl r) q2
/-- a receiver and the arguments -/
def SR (p : PC) (C : Ctx) (X : Cx) (c : Nat) (m : Str) (cs : CE) (o : Expr) (args : List Expr) : Prop := ∀ (σ : L2.St) (H : Hp) (F : AS) (fr : Fr) (own : Nat → AS) (os : List Opd) (fr1 : Fr) (Q : List V → Hp → Prop), KT X.K H → FR p X.K F σ H fr own → evOs C cs fr = .ok (os, fr1) → headIns c fr cs = true → isIns c fr1 os = true →
  (∀ vs H1, KT X.K H1 → PostO p X.K false F σ H own fr1 os vs H1 → Q vs H1) → WE X o σ H (fun v H1 => (∃ a dx fs, v = .ref a ∧ H1 a = some (.ins (p.cls c) dx fs) ∧ fs.lookup m = none) ∧ WEs X args σ H1 fun vs H2 => Q (v :: vs) H2)
theorem no_attr {K : PySem.W.Frag} {H : Hp} {A : AS} {fsV : List (Str × V)} {fs : List (Nat × M)} {fo : Nat → AS} {m : Str} (fl : Flds p K H A fsV fs fo) (no : ∀ n, p.kn n = true → p.fnm n ≠ m) : fsV.lookup m = none := by
  cases q : fsV.lookup m with
  | none => rfl
  | some v =>
    obtain ⟨n, e, ne⟩ := fl.only m v q
    obtain ⟨mm, hm⟩ := Option.ne_none_iff_exists'.mp ne
    exact absurd e.symm (no n (fl.kn n mm hm))
theorem mr_ins {K : PySem.W.Frag} {H : Hp} {A fp : AS} {c : Nat} {v : V} {fs : List (Nat × M)} {m : Str} (h : MR p K H A v (.ins c fs) fp) (no : ∀ n, p.kn n = true → p.fnm n ≠ m) : ∃ a dx fsV, v = .ref a ∧ H a = some (.ins (p.cls c) dx fsV) ∧ fsV.lookup m = none := by
  cases h with
  | b z => cases z
  | ins hx fl _ _ => exact ⟨_, _, _, rfl, hx, no_attr fl no⟩
theorem sr_bor (x : XOk p N sc top X) {c i : Nat} {m : Str} {as : CE} {nm : Str} {pos : Pos} {es : List Expr} (b : nameB N sc i nm = true) (no : ∀ n, p.kn n = true → p.fnm n ≠ m) (ss : SO p C X as es) : SR p C X c m (.cons (.bor i) as) (.Name nm pos) es := by
  intro σ H F fr own os fr1 Q kt f eval0 hd _ k
  have ev' : (match getS fr i with
      | some _ => (evOs C as fr).bind fun (os, fr) => .ok (.r i :: os, fr)
      | none => .stuck) = R.ok (os, fr1) := eval0
  have hd' : (match getS fr i with
      | some (.ins c' _) => c == c'
      | _ => false) = true := hd
  split at hd'
  · rename_i c' fs hm
    rw [hm] at ev'
    obtain ⟨⟨os', fr3⟩, q33, q4⟩ := bind_ok ev'
    cases q4
    obtain rfl : c = c' := by simpa using hd'
    obtain ⟨v, hv, mr⟩ := f.slot i _ hm
    refine we_of (pe_name x b) ⟨v, hv, mr_ins mr no, ?_⟩
    refine ss σ H F fr own os' fr1 _ kt f q33 fun vs H2 kt2 hl ⟨own2, fp2, f2, o2, s2, p2⟩ => ?_
    exact k _ H2 kt2 ⟨own2, fp2, f2, .r hv o2, s2, fun pu => by cases pu⟩
  · cases hd'
theorem sr_gen {c : Nat} {m : Str} {a as : CE} {e : Expr} {es : List Expr} (h1 : a.isBor = none) (h2 : a.isFb = none) (no : ∀ n, p.kn n = true → p.fnm n ≠ m) (sa : SE p C X a e) (ss : SO p C X as es) : SR p C X c m (.cons a as) e es := by
  intro σ H F fr own os fr1 Q kt f eval0 hd hi k
  have ev' : (match a.isBor with
    | some i => match getS fr i with
      | some _ => (evOs C as fr).bind fun (os, fr) => .ok (.r i :: os, fr)
      | none => .stuck
    | none => match a.isFb with
      | some (i, n) => if (getP fr (.f i n)).isSome && pureE as then (evOs C as fr).bind fun (os, fr) => .ok (.f i n :: os, fr) else .stuck
      | none => (evE C a fr).bind fun (m, fr) => (evOs C as fr).bind fun (os, fr) => .ok (.v m :: os, fr)) = R.ok (os, fr1) := eval0
  rw [h1, h2] at ev'
  obtain ⟨⟨m0, fr2⟩, q1, q2⟩ := bind_ok ev'
  obtain ⟨⟨os', fr3⟩, q33, q4⟩ := bind_ok q2
  cases q4
  have hi' : ∃ fs, m0 = .ins c fs := by
    cases m0 with
    | ins c' fs =>
      have e : (c == c') = true := hi
      obtain rfl : c = c' := by simpa using e
      exact ⟨fs, rfl⟩
    | _ => cases hi
  obtain ⟨fs, rfl⟩ := hi'
  · refine sa σ H F fr own _ fr2 _ kt f q1 fun v H1 kt1 ⟨own1, fp1, f1, m1, s1, p1⟩ => ⟨mr_ins m1 no, ?_⟩
    refine ss σ H1 (or_ F fp1) fr2 own1 os' fr1 _ kt1 f1 q33 fun vs H2 kt2 hl ⟨own2, fp2, f2, o2, s2, p2⟩ => ?_
    refine k _ H2 kt2 ⟨own2, or_ fp1 fp2, f2.weak fun a z => ?_, ?_, ?_, fun pu => by cases pu⟩
    · rcases z with z | z | z
      · exact .inl (.inl z)
      · exact .inl (.inr z)
      · exact .inr z
    · have tw : TrkA H2 (or_ (Own own2) fp2) := f2.own_trk.or fun a z => f2.trk a (.inr z)
      have m2 := m1.step (A' := or_ (or_ F (or_ fp1 fp2)) (Own own2)) (kk_of kt2 tw) s2 (fun a z => .inr z) (fun a z => by
        rcases z with (z | z | z) | z
        · exact .inl (.inl (.inl z))
        · exact .inl (.inl (.inr z))
        · exact .inr (.inr z)
        · exact .inr (.inl z)) fun a z ⟨i, q⟩ => f1.forn i a q (.inr z)
      refine .v m2 (o2.imp fun a z => ?_) (fun a z y => ?_) fun _ => Iff.rfl
      · rcases z with (z | z | z) | z
        · exact .inl (.inl (.inl z))
        · exact .inl (.inl (.inr z))
        · exact .inl (.inr z)
        · exact .inr z
      · rcases s2.2 a (.inr y) with ⟨i, q⟩ | q
        · exact f1.forn i a q (.inr z)
        · obtain ⟨o, eo, _⟩ := f1.trk a (.inr z)
          rw [q] at eo; cases eo
    · refine s1.trans ((s2.frame fp1).sub (fun a z => z) fun a z => ?_)
      rcases z with z | z | z
      · exact .inl (.inl z)
      · exact .inr z
      · exact .inl (.inr z)
theorem se_meth {c f : Nat} {cs : CE} {o : Expr} {m : Str} {apos pos : Pos} {es : List Expr} (h : XOk p N sc top X) (cl : ClOk p X.K) (co : CallOk p X C L k f) (me : MeOk p L X.K c f m) (hb : attributeBase o m X.env (eval o X.env) = eval o X.env) (ok : es.all okE = true) (few : es.length < 20) (hline : (apos.endLine == pos.line) = true)
    (sr : SR p C X c m cs o es) : SE p C X (.meth c f cs) (.Call (.Attribute o m apos) es [] pos) := by
  intro σ H F fr own r fr1 Q kt fr0 eval0 kk
  have ev' : (if headIns c fr cs then (evOs C cs fr).bind fun (os, fr) => if isIns c fr os then callR C f none os fr else .stuck else .stuck) = .ok (r, fr1) := eval0
  split at ev'
  · rename_i hd
    obtain ⟨⟨os, fr2⟩, q1, q2⟩ := bind_ok ev'
    simp only at q2
    split at q2
    · rename_i hi
      obtain ⟨ms, fr3, out, q33, q4, rfl⟩ := callR_ok q2
      refine we_of (pe_methG co.fn (co.room.mono (Nat.le_succ _)) h.guards cl me co.st.binds hb ok few hline) ?_
      refine sr σ H F fr own os fr2 (fun vs H2 => spF p X.K C.cal f vs H2 Q) kt fr0 q1 hd hi fun vs H1 kt1 ⟨own1, fp, f1, o1, s1, _⟩ => ?_
      exact call_sp (fun _ => trivial) (Step.own_new fr0 s1) f1 o1 s1 q33 q4 fun v H2 kt2 po => kk v H2 kt2 po
    · cases q2
  · cases ev'

/-! ### an instance made -/
theorem no_guard {a : Args} : (Code.builtin "type.__call__" a).guards = [] := by
  unfold Code.guards
  rw [if_neg (by first | decide | (intro h; cases h))]
theorem run_makeG {Cl f : Addr} {fd : FuncData} {ps : List Str} {sp : SpN} {pins : List (Addr × Obj)} {σ : L2.St} {H : Hp} {s : Shared} {Q : VK} {us : List Value} {vs : List V} (M : Mk X.K Cl f) (F : FnG X.prog X.w X.K X.mg X.base k f fd ps sp) (hr : Room (k + 1) X.A) (gu : X.A.guards = some []) (hb : Binds X.K fd ps []) (I : Inv X pins σ H s) (r : Vals vs us)
    (h : ∀ x dx, H x = none → H dx = none → dx ≠ x → KT X.K (upd (upd H dx (.own x)) x (.ins Cl dx [])) → sp (.ref x :: vs) (upd (upd H dx (.own x)) x (.ins Cl dx [])) (fun v H2 => v = .non ∧ Q (.ref x) H2)) :
    wpAny (model X.prog X.w) X.A (call (.ref Cl) us) (EP X pins σ Q) X.xe s := by
  have I2 := Inv.made (C := Cl) I
  have hq := h (s.heap.objs.size + 1) s.heap.objs.size (I.hok.fresh (Nat.le_succ _)) (I.hok.fresh (Nat.le_refl _)) (Nat.ne_of_lt (Nat.lt_succ_self _)) (kt_of I2)
  have rvals : Vals (V.ref (s.heap.objs.size + 1) :: vs) (Value.ref (s.heap.objs.size + 1) :: us) := .cons rfl r
  have hl : (Value.ref (s.heap.objs.size + 1) :: us).length = ps.length := by
    rw [← rvals.length]; exact F.len _ _ _ hq
  refine wpAny_call (make_map (f := f) I.kIn M.makes M.init (beq_iff_eq.mp M.fn) (codeAny_mono (F.run _ X.stack _ _ ⟨Value.ref (s.heap.objs.size + 1) :: us, []⟩ (Value.ref (s.heap.objs.size + 1) :: us) _ _ (fun _ _ _ => True) (hr.make Cl us []) (by show pushGuards (Code.builtin "type.__call__" ⟨.ref Cl :: us, []⟩).guards X.A.guards = some []; rw [no_guard]; exact gu)
    (I2.env0.make Cl us []) (by have := hb _ (Value.ref (s.heap.objs.size + 1) :: us) I2.kIn (by rw [List.append_nil]; exact hl); rw [List.append_nil] at this; exact this) rvals hq) fun r s' after => ?_))
  cases r with
  | error e => exact False.elim after
  | ok fl =>
    cases fl with
    | ret u =>
      obtain ⟨v, H', J3, rval, eval0, q33⟩ := I2.after after
      subst eval0
      exact ⟨rval, ⟨V.ref (s.heap.objs.size + 1), H', J3, rfl, q33⟩⟩
    | next => exact False.elim after
    | brk => exact False.elim after
    | cont => exact False.elim after
theorem pe_makeG {Cl f : Addr} {fd : FuncData} {ps : List Str} {sp : SpN} {x : Str} {pp pos : Pos} {es : List Expr} (M : Mk X.K Cl f) (F : FnG X.prog X.w X.K X.mg X.base k f fd ps sp) (hr : Room (k + 1) X.A) (gu : X.A.guards = some []) (hg : Gl X x) (hm : X.mg x = some (.ref Cl)) (hb : Binds X.K fd ps [])
    (ok : es.all okE = true) (hdb : (x == ("__debug__" : Str)) = false) : PE X (.Call (.Name x pp) es [] pos) (fun σ H Q => WEs X es σ H fun vs H1 => ∀ x dx, H1 x = none → H1 dx = none → dx ≠ x → KT X.K (upd (upd H1 dx (.own x)) x (.ins Cl dx [])) → sp (.ref x :: vs) (upd (upd H1 dx (.own x)) x (.ins Cl dx [])) (fun v H2 => v = .non ∧ Q (.ref x) H2)) := by
  refine ⟨?_⟩; intro pins s σ H Q I h
  refine wpAny_Call_Name_kw (ld_glob I hg hm (?_) hdb)
  cases es with
  | nil => exact PySem.W.callWith_K0 I.kIn M.kp (run_makeG (us := []) (vs := []) M F hr gu hb I .nil h)
  | cons e es =>
    have ok' := ok
    rw [List.all_cons, Bool.and_eq_true] at ok
    refine PySem.W.callWith_K (h₀ := X.base) I.ok.mod.kin M.kp (thn ((pa_wes ok').run pos pins s σ H _ I h) fun us s1 ⟨vs, H1, I1, r, q⟩ => ⟨I1.kIn, ?_⟩) (star_ok ok.1) (pl_ok ok.2)
    exact run_makeG M F hr gu hb I1 r q
theorem ev_make {c f : Nat} {cs : CE} {fr fr1 : Fr} {m : M} (eval0 : evE C (.make c f cs) fr = .ok (m, fr1)) : ∃ os fr2 ms fr3 out, evOs C cs fr = .ok (os, fr2) ∧ lend os fr2 = some (ms, fr3) ∧ C.cal f (.ins c [] :: ms) = .ok (.d .none, some m :: out) ∧ fr1 = back os out fr3 := by
  obtain ⟨⟨os, fr2⟩, q1, q2⟩ := bind_ok (show ((evOs C cs fr).bind fun (os, fr) => match lend os fr with
    | none => .stuck
    | some (ms, fr1) => match C.cal f (.ins c [] :: ms) with
      | .ok (.d .none, some self :: out) => R.ok (self, back os out fr1)
      | _ => .stuck) = .ok (m, fr1) from eval0)
  simp only at q2
  split at q2
  · cases q2
  · rename_i ms fr3 hl
    split at q2
    · rename_i self out hc
      cases q2
      exact ⟨os, fr2, ms, fr3, out, q1, hl, hc, rfl⟩
    · cases q2
theorem se_make {c f : Nat} {cs : CE} {es : List Expr} {x : Str} {pp pos : Pos} (h : XOk p N sc top X) (co : CallOk p X C L k f) (mk : Mk X.K (p.cls c) (L.ad f)) (hm : X.mg x = some (.ref (p.cls c))) (gl : glB sc x = true) (nd : (x == ("__debug__" : Str)) = false) (ok : es.all okE = true) (ss : SO p C X cs es) : SE p C X (.make c f cs) (.Call (.Name x pp) es [] pos) := by
  intro σ H F fr own m fr1 Q kt fr0 eval0 kk
  obtain ⟨os, fr2, ms, fr3, out, q1, q33, q4, rfl⟩ := ev_make eval0
  refine we_of (pe_makeG mk co.fn co.room h.guards (gl_of h gl) hm co.st.binds ok nd) ?_
  refine ss σ H F fr own os fr2 _ kt fr0 q1 fun vs H1 kt1 hl ⟨own1, fp, f1, o1, s1, _⟩ => ?_
  intro x dx nx ndx dne kt2
  have dF := Step.own_new fr0 s1
  obtain ⟨owa, own2, g1, g2, g3, g4, g5⟩ := lend_ok f1 o1 dF q33
  -- the new object
  let H2 : Hp := upd (upd H1 dx (.own x)) x (.ins (p.cls c) dx [])
  have gr : Grow H1 H2 := fun a o e => by
    show upd (upd H1 dx (.own x)) x (.ins (p.cls c) dx []) a = some o
    rw [upd_ne (ne_of_none e nx), upd_ne (ne_of_none e ndx)]; exact e
  have hx : H2 x = some (.ins (p.cls c) dx []) := upd_same
  have trx : TrkA H2 (fun a => a = x) := fun a z => by rw [z]; exact ⟨_, hx, fun xs z => by cases z⟩
  have g1' : FR p X.K (or_ (or_ F (fun a => a = x)) (Own own2)) (vs.map some) H2 (ms.map some) owa := (g1.grow kt2 gr (fp := fun a => a = x) (fun a z => by rw [z]; exact nx) trx).weak fun a z => by
    rcases z with (z | z) | z
    · exact .inl (.inl z)
    · exact .inr z
    · exact .inl (.inr z)
  have g2' : FR p X.K (or_ (or_ F (Own owa)) (fun a => a = x)) σ H2 fr3 own2 := g2.grow kt2 gr (fp := fun a => a = x) (fun a z => by rw [z]; exact nx) trx
  have ga : FR p X.K (or_ F (Own own2)) ((V.ref x :: vs).map some) H2 ((M.ins c [] :: ms).map some) (cons0 (fun a => a = x) owa) := FR.cons g1' (.ins (fo := fun _ => noA) hx ⟨fun n m e => (by cases e), fun n e a z => z, fun y v e => (by cases e), fun i j a (z : False) => False.elim z, Nat.le_refl _, fun n m e => (by cases e)⟩ (fun n z => z) fun b => ⟨fun z => .inl z, fun z => z.elim id fun ⟨_, (z : False)⟩ => False.elim z⟩) (fun a z => by
    subst z
    refine ⟨fun q => ?_, fun ⟨j, q⟩ => g2'.forn j a q (.inr rfl)⟩
    obtain ⟨o, e, _⟩ := f1.trk a (.inl q)
    rw [nx] at e; cases e)
  refine ⟨M.ins c [] :: ms, or_ F (Own own2), cons0 (fun a => a = x) owa, .d .none, some m :: out, by rw [List.length_cons, List.length_cons, g5], ga, q4, fun v H' own' fr' kt' fo mr st => ?_⟩
  have vn : v = .non := by obtain ⟨r, _⟩ := mr.dat; cases r; rfl
  refine ⟨vn, kk _ H' kt' ?_⟩
  have tw : TrkA H' (or_ (Own own') fr') := fo.own_trk.or fun a z => fo.trk a (.inr z)
  obtain ⟨w0, w1, w2⟩ := fo.slot 0 m rfl
  cases (show some (some (V.ref x)) = some (some w0) from w1)
  have f3 : FR p X.K (or_ (or_ (or_ F fr') (own' 0)) (Own (sh own'))) σ H' fr3 own2 := (g2'.weak (F' := or_ F (or_ (fun a => a = x) (Own owa))) fun a z => by
      rcases z with z | z | z
      · exact .inl (.inl z)
      · exact .inr z
      · exact .inl (.inr z)).stepW kt' (W := Own (cons0 (fun a => a = x) owa)) st (fun a z => by
      rcases (cons0_own a).mp z with z | z
      · exact .inr (.inl z)
      · exact .inr (.inr z)) (fun a z => by
      rcases z with ((z | z) | z) | ⟨j, z⟩
      · exact .inl (.inl z)
      · exact .inr (.inr z)
      · exact .inr (.inl ⟨0, z⟩)
      · exact .inr (.inl ⟨j + 1, z⟩)) (fun a z => by
      rcases z with ((z | z) | z) | ⟨j, z⟩
      · exact fo.trk a (.inl (.inl z))
      · exact fo.trk a (.inr z)
      · exact fo.own_trk a ⟨0, z⟩
      · exact fo.own_trk a ⟨j + 1, z⟩) tw
  obtain ⟨own3, f4, sub⟩ := back_ok (os := os) (vs := vs) (R := or_ (or_ F fr') (own' 0)) (out := out) (owo := sh own') f3 (fun j m e => by
    obtain ⟨w, h1, h2⟩ := fo.slot (j + 1) m (by rw [getS_consS]; exact e)
    refine ⟨w, ?_, h2.imp fun a z => ?_⟩
    · rw [List.map_cons, List.getElem?_cons_succ, List.getElem?_map] at h1
      cases q : vs[j]? with
      | none => rw [q] at h1; cases h1
      | some y => rw [q] at h1; cases h1; rfl
    · rcases z with (((z | z) | z) | z) | ⟨j, z⟩
      · exact .inl (.inl (.inl z))
      · exact .inl (.inr z)
      · exact .inr ⟨0, z⟩
      · exact .inl (.inl (.inr z))
      · exact .inr ⟨j + 1, z⟩) (fun i j a y z => by have := fo.disj (i + 1) (j + 1) a y z; omega) (fun j a z q => by
      rcases q with (q | q) | q
      · exact fo.forn (j + 1) a z (.inl (.inl q))
      · exact fo.forn (j + 1) a z (.inr q)
      · have := fo.disj (j + 1) 0 a z q; omega) o1.rat
  have s2 : Step H1 (or_ (Own own1) fp) H' (or_ (Own own3) (own' 0)) := by
    have s3 : Step H1 (or_ (Own owa) (Own own2)) H2 (or_ (or_ (fun a => a = x) (Own owa)) (Own own2)) :=
      (((gr.step (fp := fun a => a = x) (fun a z => by rw [z]; exact nx)).frame (or_ (Own owa) (Own own2))).sub (fun a z => z.elim False.elim id) fun a z => by
        rcases z with (z | z) | z
        · exact .inl z
        · exact .inr (.inl z)
        · exact .inr (.inr z))
    have s4 : Step H2 (or_ (or_ (fun a => a = x) (Own owa)) (Own own2)) H' (or_ (or_ (Own own') fr') (Own own2)) := (st.frame (Own own2)).sub (fun a z => by
      rcases z with z | z
      · exact .inl ((cons0_own a).mp z)
      · exact .inr z) fun a z => z
    refine (s3.trans s4).sub (fun a z => ?_) fun a z => ?_
    · rcases z with z | z
      · exact (g3 a z).elim .inr .inl
      · exact .inl (g4 a z)
    · rcases z with z | z
      · rcases sub a z with z | ⟨j, z⟩
        · exact .inr z
        · exact .inl (.inl ⟨j + 1, z⟩)
      · exact .inl (.inl ⟨0, z⟩)
  refine ⟨own3, own' 0, f4.weak fun a z => z.elim (fun q => .inl (.inl q)) .inr, w2.imp fun a z => ?_, s1.trans s2, fun z => by cases z⟩
  rcases z with (z | z) | z
  · exact .inl (.inl (.inl z))
  · exact .inr ⟨0, z⟩
  · rcases sub a z with z | ⟨j, z⟩
    · exact .inl (.inl (.inr z))
    · exact .inr ⟨j + 1, z⟩
end
end Mn
/-! Mn, part O: statements. -/
namespace Mn
open PySem L2 PySem.Spec RZ
open PyProof.Rows hiding St

def WS (X : Cx) (st : Stmt) : TS := fun D σ H => ∀ (pins : List (Addr × Obj)) (s : Shared), Inv X pins σ H s → wpAny (model X.prog X.w) X.A (exec st X.env) (SP X pins D) X.xe s
def WSs (X : Cx) (st : List Stmt) : TS := fun D σ H => ∀ (pins : List (Addr × Obj)) (s : Shared), Inv X pins σ H s → wpAny (model X.prog X.w) X.A (execs st X.env) (SP X pins D) X.xe s
/-- the pinned names are as they were -/
def Pin (C : Ctx) (σ σ' : L2.St) : Prop := ∀ i, C.pin i = true → σ'[i]? = σ[i]?
def PostS (p : PC) (K : PySem.W.Frag) (C : Ctx) (F : AS) (σ : L2.St) (H0 : Hp) (own0 : Nat → AS) (fr1 : Fr) (σ' : L2.St) (H : Hp) : Prop := ∃ (own : Nat → AS), FR p K F σ' H fr1 own ∧ Step H0 (Own own0) H (Own own) ∧ Pin C σ σ'
def PostR (p : PC) (K : PySem.W.Frag) (C : Ctx) (F : AS) (σ : L2.St) (H0 : Hp) (own0 : Nat → AS) (fr1 : Fr) (m : M) (v : V) (H : Hp) : Prop := ∃ (σ' : L2.St) (own : Nat → AS) (fp : AS), FR p K (or_ F fp) σ' H fr1 own ∧ MR p K H (or_ (or_ F fp) (Own own)) v m fp ∧ Step H0 (Own own0) H (or_ (Own own) fp) ∧ Pin C σ σ'
def EndOk (p : PC) (K : PySem.W.Frag) (C : Ctx) (F : AS) (σ : L2.St) (H0 : Hp) (own0 : Nat → AS) : Out → Ends → Prop
  | .next fr1, D => ∀ σ' H, KT K H → PostS p K C F σ H0 own0 fr1 σ' H → D.nx σ' H
  | .brk fr1, D => ∀ σ' H, KT K H → PostS p K C F σ H0 own0 fr1 σ' H → D.bk σ' H
  | .cnt fr1, D => ∀ σ' H, KT K H → PostS p K C F σ H0 own0 fr1 σ' H → D.ct σ' H
  | .ret m fr1, D => ∀ v H, KT K H → PostR p K C F σ H0 own0 fr1 m v H → D.rt v H
def SS (p : PC) (C : Ctx) (X : Cx) (c : CS) (st : Stmt) : Prop := ∀ (σ : L2.St) (H : Hp) (F : AS) (fr : Fr) (own : Nat → AS) (o : Out) (D : Ends), FR p X.K F σ H fr own → exS C c fr = .ok o → EndOk p X.K C F σ H own o D → WS X st D σ H
def SSs (p : PC) (C : Ctx) (X : Cx) (c : CS) (st : List Stmt) : Prop := ∀ (σ : L2.St) (H : Hp) (F : AS) (fr : Fr) (own : Nat → AS) (o : Out) (D : Ends), FR p X.K F σ H fr own → exS C c fr = .ok o → EndOk p X.K C F σ H own o D → WSs X st D σ H
section
variable {p : PC} {N : List Str} {sc : Scope} {top : Bool} {X : Cx} {C : Ctx} {L : Lk} {k : Nat}
theorem Pin.refl {σ : L2.St} : Pin C σ σ := fun _ _ => rfl
theorem Pin.trans {σ σ1 σ2 : L2.St} (a : Pin C σ σ1) (b : Pin C σ1 σ2) : Pin C σ σ2 := fun i h => (b i h).trans (a i h)
theorem ps_ws {st : Stmt} : PS X st (WS X st) := ⟨fun pins s σ H D I h => h pins s I⟩
theorem pss_wss {st : List Stmt} : PSs X st (WSs X st) := ⟨fun pins s σ H D I h => h pins s I⟩
theorem ws_of {st : Stmt} {t : TS} (h : PS X st t) {D : Ends} {σ : L2.St} {H : Hp} (k : t D σ H) : WS X st D σ H := fun pins s I => h.run pins s σ H D I k
theorem wss_of {st : List Stmt} {t : TS} (h : PSs X st t) {D : Ends} {σ : L2.St} {H : Hp} (k : t D σ H) : WSs X st D σ H := fun pins s I => h.run pins s σ H D I k
/-- what was done ahead -/
theorem EndOk.from {F : AS} {σ σ1 : L2.St} {H0 H1 : Hp} {own0 own1 : Nat → AS} {o : Out} {D : Ends} (h : EndOk p X.K C F σ H0 own0 o D) (s : Step H0 (Own own0) H1 (Own own1)) (pn : Pin C σ σ1) : EndOk p X.K C F σ1 H1 own1 o D := by
  cases o with
  | next fr => exact fun σ' H kt ⟨own, f, s', pn'⟩ => h σ' H kt ⟨own, f, s.trans s', pn.trans pn'⟩
  | brk fr => exact fun σ' H kt ⟨own, f, s', pn'⟩ => h σ' H kt ⟨own, f, s.trans s', pn.trans pn'⟩
  | cnt fr => exact fun σ' H kt ⟨own, f, s', pn'⟩ => h σ' H kt ⟨own, f, s.trans s', pn.trans pn'⟩
  | ret m fr => exact fun v H kt ⟨σ', own, fp, f, mr, s', pn'⟩ => h v H kt ⟨σ', own, fp, f, mr, s.trans s', pn.trans pn'⟩
theorem sss_nil : SSs p C X .nil [] := by
  intro σ H F fr own o D f ev e pins s I
  cases (show R.ok (Out.next fr) = .ok o from ev)
  exact pss_nil.run pins s σ H D I (e σ H (kt_of I) ⟨own, f, Step.refl _ _, Pin.refl⟩)
theorem sss_cons {c r : CS} {st : Stmt} {sts : List Stmt} (h1 : SS p C X c st) (h2 : SSs p C X r sts) : SSs p C X (.cons c r) (st :: sts) := by
  intro σ H F fr own o D f ev e
  obtain ⟨o1, q1, q2⟩ := bind_ok (show ((exS C c fr).bind fun o => match o with
    | .next fr => exS C r fr
    | o => .ok o) = .ok o from ev)
  refine wss_of (pss_cons ps_ws pss_wss) (h1 σ H F fr own o1 { D with nx := WSs X sts D } f q1 ?_)
  cases o1 with
  | next fr1 =>
    intro σ1 H1 kt1 ⟨own1, f1, s1, pn1⟩
    exact h2 σ1 H1 F fr1 own1 o D f1 q2 (e.from s1 pn1)
  | brk fr1 => cases q2; exact e
  | cnt fr1 => cases q2; exact e
  | ret m fr1 => cases q2; exact e
theorem ss_pass {pos : Pos} : SS p C X .pass (.Pass pos) := by
  intro σ H F fr own o D f ev e pins s I
  cases (show R.ok (Out.next fr) = .ok o from ev)
  exact ps_pass.run pins s σ H D I (e σ H (kt_of I) ⟨own, f, Step.refl _ _, Pin.refl⟩)
theorem ss_brk {pos : Pos} : SS p C X .brk (.Break pos) := by
  intro σ H F fr own o D f ev e pins s I
  cases (show R.ok (Out.brk fr) = .ok o from ev)
  exact ps_break.run pins s σ H D I (e σ H (kt_of I) ⟨own, f, Step.refl _ _, Pin.refl⟩)
theorem ss_cnt {pos : Pos} : SS p C X .cnt (.Continue pos) := by
  intro σ H F fr own o D f ev e pins s I
  cases (show R.ok (Out.cnt fr) = .ok o from ev)
  exact ps_continue.run pins s σ H D I (e σ H (kt_of I) ⟨own, f, Step.refl _ _, Pin.refl⟩)
theorem ss_never {st : Stmt} : SS p C X .never st := by
  intro σ H F fr own o D f ev e pins s I
  cases (show R.stuck = .ok o from ev)
theorem ss_retn {pos : Pos} : SS p C X .retn (.Return none pos) := by
  intro σ H F fr own o D f ev e pins s I
  cases (show R.ok (Out.ret (.d .none) fr) = .ok o from ev)
  exact ps_retN.run pins s σ H D I (e .non H (kt_of I) ⟨σ, own, noA, f.weak (fun a z => z.elim id False.elim), .b (.d .none fun _ z => z), (Step.refl _ _).sub (fun _ z => z) (fun a z => z.elim id False.elim), Pin.refl⟩)
theorem ss_ret {c : CE} {e : Expr} {pos : Pos} (se : SE p C X c e) : SS p C X (.ret c) (.Return (some e) pos) := by
  intro σ H F fr own o D f ev en pins s I
  obtain ⟨⟨m, fr1⟩, q1, q2⟩ := bind_ok (show ((evE C c fr).bind fun (m, fr) => R.ok (Out.ret m fr)) = .ok o from ev)
  cases q2
  exact (ps_ret pe_we).run pins s σ H D I (se σ H F fr own m fr1 _ (kt_of I) f q1 fun v H1 kt1 ⟨own1, fp, f1, m1, s1, _⟩ => en v H1 kt1 ⟨σ, own1, fp, f1, m1, s1, Pin.refl⟩)
def noComp : Expr → Bool
  | .ListComp _ _ _ _ => false
  | .SetComp _ _ _ _ => false
  | .DictComp _ _ _ _ _ => false
  | _ => true
theorem sw_ok {e : Expr} {t : Option Expr} {l : Nat} {env : Env} (h : noComp e = true) : swapsWith e t l env = pure false := by
  cases e <;> first | rfl | (cases h)
theorem ss_ex {c : CE} {e : Expr} {pos : Pos} (nc : noComp e = true) (se : SE p C X c e) : SS p C X (.ex c) (.Expr e pos) := by
  intro σ H F fr own o D f ev en pins s I
  obtain ⟨⟨m, fr1⟩, q1, q2⟩ := bind_ok (show ((evE C c fr).bind fun (_, fr) => R.ok (Out.next fr)) = .ok o from ev)
  cases q2
  exact (ps_expr pe_we (sw_ok nc)).run pins s σ H D I (se σ H F fr own m fr1 _ (kt_of I) f q1 fun v H1 kt1 ⟨own1, fp, f1, m1, s1, _⟩ => en σ H1 kt1 ⟨own1, f1.weak (fun a z => .inl z), s1.sub (fun _ z => z) (fun a z => .inl z), Pin.refl⟩)
theorem ss_ite {c : CE} {a b : CS} {e : Expr} {sa sb : List Stmt} {pos : Pos} (st : ST p C X c e) (ha : SSs p C X a sa) (hb : SSs p C X b sb) : SS p C X (.ite c a b) (.If e sa sb pos) := by
  intro σ H F fr own o D f ev en pins s I
  obtain ⟨⟨t, fr1⟩, q1, q2⟩ := bind_ok (show ((evT C c fr).bind fun (t, fr) => if t then exS C a fr else exS C b fr) = .ok o from ev)
  refine (ps_if pt_wt pss_wss pss_wss).run pins s σ H D I (st σ H F fr own t fr1 _ (kt_of I) f q1 fun H1 kt1 ⟨own1, f1, s1⟩ => ?_)
  cases t with
  | true => exact ha σ H1 F fr1 own1 o D f1 q2 (en.from s1 Pin.refl)
  | false => exact hb σ H1 F fr1 own1 o D f1 q2 (en.from s1 Pin.refl)
/-- a name takes what is at hand -/
theorem asg_post {F : AS} {σ : L2.St} {H0 H : Hp} {own0 : Nat → AS} {fr0 fr1 : Fr} {m : M} {v : V} {pu : Bool} {i : Nat} (fz : FR p X.K F σ H0 fr0 own0) (po : Post p X.K pu F σ H0 own0 fr1 m v H) (pn : C.pin i = false) (hi : i < σ.length) : PostS p X.K C F σ H0 own0 (fr1.set i (some m)) (σ.set i (some v)) H := by
  obtain ⟨own1, fp, f1, m1, s1, _⟩ := po
  refine ⟨pt own1 i fp, FR.asg f1 m1 (Step.own_new fz s1) hi, s1.sub (fun _ z => z) fun a ⟨j, z⟩ => ?_, fun j hj => ?_⟩
  · by_cases e : j = i
    · subst e; rw [pt_same] at z; exact .inr z
    · rw [pt_ne e] at z; exact .inl ⟨j, z⟩
  · rw [List.getElem?_set_ne (fun e => by subst e; rw [pn] at hj; cases hj)]
theorem ss_asg (h : XOk p N sc top X) {i : Nat} {c : CE} {e : Expr} {x : Str} {px pos : Pos} (b : locB N sc top i x = true) (nc : noComp e = true) (se : SE p C X c e) : SS p C X (.asg i c) (.Assign [.Name x px] e pos) := by
  intro σ H F fr own o D f ev en pins s I
  obtain ⟨⟨m, fr1⟩, q1, q2⟩ := bind_ok (show ((evE C c fr).bind fun (m, fr) => (setS C fr i m).bind fun fr => R.ok (Out.next fr)) = .ok o from ev)
  obtain ⟨fr2, q3, q4⟩ := bind_ok q2
  cases q4
  obtain ⟨pn, rfl⟩ := setS_ok q3
  have hi : i < σ.length := by rw [I.len, h.n]; exact (List.getElem?_eq_some_iff.mp (loc_of b).1).1
  refine (ps_asg pe_we (pg_nm h b) (show swapsWithSole [.Name x px] e pos.line X.env = pure false from (sw_ok nc : swapsWith e (some (.Name x px)) pos.line X.env = pure false))).run pins s σ H D I (se σ H F fr own m fr1 _ (kt_of I) f q1 fun v H1 kt1 po => ?_)
  exact en _ H1 kt1 (asg_post f po pn hi)
/-- .. a list comprehension on the same line -/
theorem ss_asgLc (h : XOk p N sc top X) {i : Nat} {x : Str} {px pos cpos : Pos} {tg : List Nat} {kk : ItK} {it cond elt : CE} {tge ie ee : Expr} {ifs : List Expr} {scope : Scope} {own : List (Str × Nat)} (hx : sc.names.lookup x = some .local) (hn : N[i]? = some x)
    (hk : sc.kind = .function) (bl : X.env.blockKind = .function) (hl : (px.line == cpos.line) = true) (no : (scope.names.any fun (n, k) => n == x && (k == .local || k == .cell)) = false)
    (ok : BlkOk N sc scope own) (ho : own.map (·.2) = tg) (okI : okE ie = true) (sl : SL p C X (.comp tg kk it cond elt) (tLc (WI X tge ie) (gB X scope tge) (tB1 X scope ifs) (eB X scope ee) tg)) :
    SS p C X (.asg i (.comp tg kk it cond elt)) (.Assign [.Name x px] (.ListComp ee [⟨tge, ie, ifs, 0⟩] scope cpos) pos) := by
  intro σ H F fr own0 o D f ev en pins s I
  obtain ⟨⟨m, fr1⟩, q1, q2⟩ := bind_ok (show ((evE C (.comp tg kk it cond elt) fr).bind fun (m, fr) => (setS C fr i m).bind fun fr => R.ok (Out.next fr)) = .ok o from ev)
  obtain ⟨fr2, q3, q4⟩ := bind_ok q2
  cases q4
  obtain ⟨pn, rfl⟩ := setS_ok q3
  have hi : i < σ.length := by rw [I.len, h.n]; exact (List.getElem?_eq_some_iff.mp hn).1
  have sw : swapsWith (.ListComp ee [⟨tge, ie, ifs, 0⟩] scope cpos) (some (.Name x px)) pos.line X.env = pure true := by
    show (pure (X.env.blockKind == .function && X.env.kindOf x == some .local && px.line == cpos.line && !(scope.names.any fun (n, k) => n == x && (k == .local || k == .cell))) : Sem Bool) = _
    have : X.env.kindOf x = some .local := by show X.env.scope.names.lookup x = _; rw [h.sc]; exact hx
    rw [bl, this, hl, no]; rfl
  refine thn ((ps_setLc (own := own) h.calm (by rw [h.n]; exact h.nd) (by rw [h.n]; exact hn) (by rw [h.sc]; exact hx) sw pi_wi (by rw [h.n, h.sc]; exact ok) pg_b pt_b pe_b (fold_ok okI)).run pins s σ H { D with nx := fun σ H => KT X.K H → D.nx σ H } I ?_) fun fl s' q => ?_
  · rw [ho]
    exact sl σ H F fr own0 m fr1 (fun v H1 => D.nx (σ.set i (some v)) H1) (kt_of I) f q1 fun v H1 kt1 po => en _ H1 kt1 (asg_post f po pn hi)
  · cases fl with
    | next => obtain ⟨σ', H', I', q⟩ := q; exact ⟨σ', H', I', q (kt_of I')⟩
    | ret u => exact q
    | brk => exact q
    | cont => exact q
/-! ### while, for -/
theorem whl_run {c : CE} {b : CS} {e : Expr} {sb : List Stmt} (st : ST p C X c e) (hb : SSs p C X b sb) {σ0 : L2.St} {H0 : Hp} {F : AS} {own0 : Nat → AS} {o : Out} {D : Ends} (en : EndOk p X.K C F σ0 H0 own0 o D) :
    ∀ (m : Nat) (σ : L2.St) (H : Hp), (∃ fr own, FR p X.K F σ H fr own ∧ whlN (evT C c) (exS C b) m fr = .ok o ∧ Step H0 (Own own0) H (Own own) ∧ Pin C σ0 σ) →
      WT X e σ H fun t H1 => if t = true then ∃ Nn : L2.St → Hp → Prop, (∀ σ' H', Nn σ' H' → ∃ m', m' < m ∧ (∃ fr own, FR p X.K F σ' H' fr own ∧ whlN (evT C c) (exS C b) m' fr = .ok o ∧ Step H0 (Own own0) H' (Own own) ∧ Pin C σ0 σ')) ∧ WSs X sb { D with nx := Nn, ct := Nn, bk := D.nx } σ H1 else D.nx σ H1 := by
  rintro m σ H ⟨fr, own, f, ew, s0, pn⟩
  intro pins s I
  cases m with
  | zero => cases ew
  | succ m =>
    obtain ⟨⟨t, fr1⟩, q1, q2⟩ := bind_ok (show ((evT C c fr).bind fun (t, fr) => if t then (exS C b fr).bind fun o => match o with
      | .next fr => whlN (evT C c) (exS C b) m fr
      | .cnt fr => whlN (evT C c) (exS C b) m fr
      | .brk fr => R.ok (.next fr)
      | .ret m fr => .ok (.ret m fr)
      else .ok (.next fr)) = .ok o from ew)
    refine st σ H F fr own t fr1 _ (kt_of I) f q1 (fun H1 kt1 ⟨own1, f1, s1⟩ => ?_) pins s I
    cases t with
    | false =>
      cases (show R.ok (Out.next fr1) = .ok o from q2)
      rw [if_neg (by decide)]
      exact en σ H1 kt1 ⟨own1, f1, s0.trans s1, pn⟩
    | true =>
      rw [if_pos rfl]
      obtain ⟨o1, q3, q4⟩ := bind_ok (show ((exS C b fr1).bind fun o => match o with
        | .next fr => whlN (evT C c) (exS C b) m fr
        | .cnt fr => whlN (evT C c) (exS C b) m fr
        | .brk fr => R.ok (.next fr)
        | .ret m fr => .ok (.ret m fr)) = .ok o from q2)
      refine ⟨fun σ' H' => ∃ fr own, FR p X.K F σ' H' fr own ∧ whlN (evT C c) (exS C b) m fr = .ok o ∧ Step H0 (Own own0) H' (Own own) ∧ Pin C σ0 σ', fun σ' H' n => ⟨m, Nat.lt_succ_self m, n⟩, ?_⟩
      refine hb σ H1 F fr1 own1 o1 _ f1 q3 ?_
      cases o1 with
      | next fr2 => exact fun σ' H' kt' ⟨own', f', s', pn'⟩ => ⟨fr2, own', f', q4, (s0.trans s1).trans s', pn.trans pn'⟩
      | cnt fr2 => exact fun σ' H' kt' ⟨own', f', s', pn'⟩ => ⟨fr2, own', f', q4, (s0.trans s1).trans s', pn.trans pn'⟩
      | brk fr2 =>
        cases (show R.ok (Out.next fr2) = .ok o from q4)
        exact fun σ' H' kt' ⟨own', f', s', pn'⟩ => en σ' H' kt' ⟨own', f', (s0.trans s1).trans s', pn.trans pn'⟩
      | ret m2 fr2 =>
        cases (show R.ok (Out.ret m2 fr2) = .ok o from q4)
        exact fun v H' kt' ⟨σ', own', fp, f', mr, s', pn'⟩ => en v H' kt' ⟨σ', own', fp, f', mr, (s0.trans s1).trans s', pn.trans pn'⟩
theorem ss_whl {c : CE} {b : CS} {e : Expr} {sb : List Stmt} {pos : Pos} (hp : PassesOwn (model X.prog X.w) X.A X.env X.xe) (st : ST p C X c e) (hb : SSs p C X b sb) : SS p C X (.whl c b) (.While e sb [] pos) := by
  intro σ H F fr own o D f ev en
  refine ws_of (ps_while hp pt_wt pss_wss) ⟨fun m σ' H' => ∃ fr' own', FR p X.K F σ' H' fr' own' ∧ whlN (evT C c) (exS C b) m fr' = .ok o ∧ Step H (Own own) H' (Own own') ∧ Pin C σ σ', ⟨C.fuel, fr, own, f, ev, Step.refl _ _, Pin.refl⟩, fun m σ' H' w => whl_run st hb en m σ' H' w⟩
theorem take_pin {tg : List Nat} {x : D} {fr fr1 : Fr} (t : take C tg x fr = .ok fr1) {σ σ' : L2.St} (a : Agree tg σ σ') : Pin C σ σ' := by
  have seq : ∀ {tg : List Nat} {xs : List D} {fr fr1 : Fr}, setSs C tg xs fr = .ok fr1 → ∀ i ∈ tg, C.pin i = false := by
    intro tg
    induction tg with
    | nil => intro xs fr fr1 _ i hi; cases hi
    | cons j r ih =>
      intro xs fr fr1 h i hi
      cases xs with
      | nil => cases h
      | cons d ds =>
        obtain ⟨fr2, t1, t2⟩ := bind_ok (show ((setS C fr j (.d d)).bind fun fr => setSs C r ds fr) = .ok fr1 from h)
        rcases List.mem_cons.mp hi with rfl | hi
        · exact (setS_ok t1).1
        · exact ih t2 i hi
  have all : ∀ i ∈ tg, C.pin i = false := by
    unfold take at t
    split at t
    · intro i hi
      rw [List.mem_singleton] at hi
      rw [hi]
      exact (setS_ok t).1
    · split at t
      · exact seq t
      · cases t
  intro i hi
  exact a.2 i fun z => by rw [all i z] at hi; cases hi
theorem ss_loop {tg : List Nat} {kk : ItK} {it : CE} {b : CS} {tge ie : Expr} {sb : List Stmt} {pos : Pos} (h : XOk p N sc top X) (hp : PassesOwn (model X.prog X.w) X.A X.env X.xe) (okI : okE ie = true) (si : SI p C X kk it tge ie) (sg : SG p C X tg tge) (hb : SSs p C X b sb) : SS p C X (.loop tg kk it b) (.For tge ie sb [] pos) := by
  intro σ H F fr own o D f ev en pins s I
  obtain ⟨⟨os, fr1⟩, q1, q2⟩ := bind_ok (show ((evVs C it fr).bind fun (os, fr) => match iterD kk os with
    | none => R.stuck
    | some ds => forN (fun x fr => (take C tg x fr).bind fun fr => exS C b fr) ds fr) = .ok o from ev)
  simp only at q2
  split at q2
  · cases q2
  · rename_i ds hd
    refine (ps_for hp h.calm pi_wi pg_wg pss_wss (fold_ok okI)).run pins s σ H D I ?_
    refine si σ H F fr own os ds fr1 _ (kt_of I) f q1 hd fun J H1 kt1 ⟨own1, f1, ir1, s1⟩ => ?_
    refine ⟨fun i m σ' H' => m = ds.length - i ∧ i ≤ ds.length ∧ KT X.K H' ∧ ∃ fr' own', FR p X.K F σ' H' fr' own' ∧ ItR X.K H' (or_ F (Own own')) J ds ∧ forN (fun x fr => (take C tg x fr).bind fun fr => exS C b fr) (ds.drop i) fr' = .ok o ∧ Step H (Own own) H' (Own own') ∧ Pin C σ σ', ⟨ds.length, by simp, Nat.zero_le _, kt1, fr1, own1, f1, ir1, by rw [List.drop_zero]; exact q2, s1, Pin.refl⟩, ?_⟩
    rintro i m σ' H' ⟨rfl, hi, kt', fr', own', f', ir', en', s', pn'⟩
    by_cases hlt : i < ds.length
    · rw [List.drop_eq_getElem_cons hlt] at en'
      obtain ⟨o1, n1, n2⟩ := bind_ok (show (((take C tg ds[i] fr').bind fun fr => exS C b fr).bind fun o => match o with
        | .next fr => forN (fun x fr => (take C tg x fr).bind fun fr => exS C b fr) (ds.drop (i + 1)) fr
        | .cnt fr => forN (fun x fr => (take C tg x fr).bind fun fr => exS C b fr) (ds.drop (i + 1)) fr
        | .brk fr => R.ok (.next fr)
        | .ret m fr => .ok (.ret m fr)) = .ok o from en')
      obtain ⟨fr2, n3, n4⟩ := bind_ok n1
      refine .inr ⟨ir'.s.go hlt, fun σ2 H2 => i + 1 ≤ ds.length ∧ KT X.K H2 ∧ ∃ fr' own', FR p X.K F σ2 H2 fr' own' ∧ ItR X.K H2 (or_ F (Own own')) J ds ∧ forN (fun x fr => (take C tg x fr).bind fun fr => exS C b fr) (ds.drop (i + 1)) fr' = .ok o ∧ Step H (Own own) H2 (Own own') ∧ Pin C σ σ2, fun σ2 H2 n => ⟨ds.length - (i + 1), by omega, rfl, n⟩, fun x H2 y => ?_⟩
      have g2 := ir'.s.yg y
      intro pins2 s2 u I2 r2
      have kt2 := kt_of I2
      have hdi : ds[i]? = some ds[i] := List.getElem?_eq_getElem hlt
      obtain ⟨rx, _, _⟩ := ir'.yld f'.all_trk hdi y kt2
      have st2 : Step H' noA H2 noA := ⟨fun a o e _ => g2 a o e, fun _ z => z.elim⟩
      have f2 : FR p X.K F σ' H2 fr' own' := f'.stepW kt2 st2 (fun _ z => z.elim) (fun _ z => .inl z) (f'.trk.grow g2) (fun _ z => z.elim)
      have st2' : Step H' (Own own') H2 (Own own') := (st2.frame (Own own')).sub (fun a z => z.elim False.elim id) fun a z => .inr z
      refine sg σ' H2 F fr' own' ds[i] fr2 x _ f2 rx n3 (fun σ3 ⟨own3, f3, s3, a3⟩ => ?_) pins2 s2 u I2 r2
      have pn3 : Pin C σ' σ3 := take_pin n3 a3
      refine hb σ3 H2 F fr2 own3 o1 _ f3 n4 ?_
      have go : ∀ {fr5 : Fr} {σ5 : L2.St} {H5 : Hp} {own5 : Nat → AS}, KT X.K H5 → FR p X.K F σ5 H5 fr5 own5 → Step H2 (Own own3) H5 (Own own5) → Pin C σ3 σ5 → ItR X.K H5 (or_ F (Own own5)) J ds ∧ Step H (Own own) H5 (Own own5) ∧ Pin C σ σ5 := fun {fr5 σ5 H5 own5} kt5 f5 s5 pn5 => by
        have st := (st2'.trans s3).trans s5
        exact ⟨ir'.step (kk_of kt5 f5.own_trk) st (fun a z => .inr z) (fun a z => z.elim (fun q => .inl (.inl q)) .inr), s'.trans st, (pn'.trans pn3).trans pn5⟩
      cases o1 with
      | next fr4 => exact fun σ5 H5 kt5 ⟨own5, f5, s5, pn5⟩ => let ⟨z1, z2, z3⟩ := go kt5 f5 s5 pn5; ⟨hlt, kt5, fr4, own5, f5, z1, n2, z2, z3⟩
      | cnt fr4 => exact fun σ5 H5 kt5 ⟨own5, f5, s5, pn5⟩ => let ⟨z1, z2, z3⟩ := go kt5 f5 s5 pn5; ⟨hlt, kt5, fr4, own5, f5, z1, n2, z2, z3⟩
      | brk fr4 =>
        cases (show R.ok (Out.next fr4) = .ok o from n2)
        exact fun σ5 H5 kt5 ⟨own5, f5, s5, pn5⟩ => let ⟨z1, z2, z3⟩ := go kt5 f5 s5 pn5; en σ5 H5 kt5 ⟨own5, f5, z2, z3⟩
      | ret m4 fr4 =>
        cases (show R.ok (Out.ret m4 fr4) = .ok o from n2)
        exact fun v H5 kt5 ⟨σ5, own5, fp, f5, mr, s5, pn5⟩ => en v H5 kt5 ⟨σ5, own5, fp, f5, mr, s'.trans ((st2'.trans s3).trans s5), (pn'.trans pn3).trans pn5⟩
    · have e : i = ds.length := by omega
      subst e
      rw [List.drop_length] at en'
      cases (show R.ok (Out.next fr') = .ok o from en')
      exact .inl ⟨ir'.s.stop (Nat.le_refl _), en σ' H' kt' ⟨own', f', s', pn'⟩⟩
end
end Mn
/-! Mn, part P: several targets, stores, fields set, functions. -/
namespace Mn
open PySem L2 PySem.Spec RZ
open PyProof.Rows hiding St

section
variable {p : PC} {N : List Str} {sc : Scope} {top : Bool} {X : Cx} {C : Ctx} {L : Lk} {k : Nat}
def isStar : Expr → Bool
  | .Starred _ _ => true
  | _ => false
theorem star_ne {e : Expr} : okE e = true → (match e with | .Starred .. => true | _ => false) = false := by
  cases e <;> intro h <;> first | rfl | (cases h)
theorem bk_of (h : XOk p N sc top X) (hk : sc.kind = .function) : X.env.blockKind = .function := by
  unfold Env.blockKind
  rw [h.sc, hk]; rfl
theorem swap2 {env : Env} {x y : Str} {px py pt pt2 : Pos} {kt k2 : Nat} {a b : Expr} (bk : env.blockKind = .function) (hx : env.kindOf x = some .local) (hy : env.kindOf y = some .local) (hl : (py.line == px.line) = true) (hxy : x ≠ y) (ok : [a, b].all okE = true)
    (nf : [a, b].all (foldedForSure 8) = false) (nc : [a, b].all (constantsAlone 8) = false) : swappedStores [.Tuple [.Name x px, .Name y py] kt pt] (.Tuple [a, b] k2 pt2) env = pure (some [x, y]) := by
  rw [List.all_cons, Bool.and_eq_true, List.all_cons, Bool.and_eq_true] at ok
  have sa := star_ne ok.1
  have sb := star_ne ok.2.1
  have hl' : py.line = px.line := by simpa using hl
  have e2 : ([x, y] : List Str).eraseDups = [x, y] := by simp [List.eraseDups_cons, Ne.symm hxy]
  unfold swappedStores
  have p1 : (Expr.Name x px).pos = px := rfl
  simp only [bk, nf, nc, List.any_cons, List.any_nil, sa, sb, List.filterMap_cons, List.filterMap_nil, hx, hy, hl', List.head?_cons, Option.map_some, Option.getD_some, p1, List.length_cons, List.length_nil]
  simp [e2]
  rintro (h | h)
  · exact absurd (sa.symm.trans h) Bool.false_ne_true
  · exact absurd (sb.symm.trans h) Bool.false_ne_true
/-! ### a store -/
theorem EntK.put {K : PySem.W.Frag} {H : Hp} {A : AS} {k x : D} {kk : Key} {v : V} (hk : keyD k = some kk) (r : Rp K H A v x) {kvs : List (Key × V)} {ds : List (D × D)} (h : EntK K H A kvs ds) : EntK K H A (putK kvs kk v) (dput k x ds) := by
  have h1 : ∀ {kvs : List (Key × V)} {ds : List (D × D)}, EntK K H A kvs ds → (kvs.any fun kv => decide (kv.1 = kk)) = (ds.any fun p => PyData.eqv p.1 k) := by
    intro kvs ds h
    induction h with
    | nil => rfl
    | cons ha _ _ ih => rw [List.any_cons, List.any_cons, ih, keyD_eqv ha hk]
  have h2 : ∀ {kvs : List (Key × V)} {ds : List (D × D)}, EntK K H A kvs ds → EntK K H A (kvs.map fun kv => if kv.1 = kk then (kv.1, v) else kv) (ds.map fun p => if PyData.eqv p.1 k then (p.1, x) else p) := by
    intro kvs ds h
    induction h with
    | nil => exact .nil
    | @cons k1 v1 a1 x1 _ _ ha hr _ ih =>
      rw [List.map_cons]; rw [List.map_cons]
      simp only [keyD_eqv ha hk, decide_eq_true_eq]
      by_cases e : k1 = kk
      · rw [if_pos e, if_pos e]; exact .cons ha r ih
      · rw [if_neg e, if_neg e]; exact .cons ha hr ih
  have h3 : ∀ {kvs : List (Key × V)} {ds : List (D × D)}, EntK K H A kvs ds → EntK K H A (kvs ++ [(kk, v)]) (ds ++ [(k, x)]) := by
    intro kvs ds h
    induction h with
    | nil => exact .cons hk r .nil
    | cons ha hr _ ih => exact .cons ha hr ih
  unfold putK dput
  rw [h1 h]
  split
  · exact h2 h
  · exact h3 h
theorem EntT.put {K : PySem.W.Frag} {H : Hp} {A : AS} {k x : D} {kk : List Key} {v : V} (hk : keysD k = some kk) (r : Rp K H A v x) {kvs : List (List Key × V)} {ds : List (D × D)} (h : EntT K H A kvs ds) : EntT K H A (putK kvs kk v) (dput k x ds) := by
  have h1 : ∀ {kvs : List (List Key × V)} {ds : List (D × D)}, EntT K H A kvs ds → (kvs.any fun kv => decide (kv.1 = kk)) = (ds.any fun p => PyData.eqv p.1 k) := by
    intro kvs ds h
    induction h with
    | nil => rfl
    | cons ha _ _ ih => rw [List.any_cons, List.any_cons, ih, keysD_eqv ha hk]
  have h2 : ∀ {kvs : List (List Key × V)} {ds : List (D × D)}, EntT K H A kvs ds → EntT K H A (kvs.map fun kv => if kv.1 = kk then (kv.1, v) else kv) (ds.map fun p => if PyData.eqv p.1 k then (p.1, x) else p) := by
    intro kvs ds h
    induction h with
    | nil => exact .nil
    | @cons k1 v1 a1 x1 _ _ ha hr _ ih =>
      rw [List.map_cons]; rw [List.map_cons]
      simp only [keysD_eqv ha hk, decide_eq_true_eq]
      by_cases e : k1 = kk
      · rw [if_pos e, if_pos e]; exact .cons ha r ih
      · rw [if_neg e, if_neg e]; exact .cons ha hr ih
  have h3 : ∀ {kvs : List (List Key × V)} {ds : List (D × D)}, EntT K H A kvs ds → EntT K H A (kvs ++ [(kk, v)]) (ds ++ [(k, x)]) := by
    intro kvs ds h
    induction h with
    | nil => exact .cons hk r .nil
    | cons ha hr _ ih => exact .cons ha hr ih
  unfold putK dput
  rw [h1 h]
  split
  · exact h2 h
  · exact h3 h
theorem RpAll.set {K : PySem.W.Frag} {H : Hp} {A : AS} {v : V} {x : D} (r : Rp K H A v x) : ∀ {vs : List V} {ds : List D} (n : Nat), RpAll K H A vs ds → RpAll K H A (vs.set n v) (ds.set n x)
  | _, _, _, .nil => .nil
  | _, _, 0, .cons _ tl => .cons r tl
  | _, _, n + 1, .cons h t => .cons h (RpAll.set r n t)
theorem PlV.inj {σ : L2.St} {H : Hp} {pl : Pl} {v w : V} (a : PlV p σ H pl v) (b : PlV p σ H pl w) : v = w := by
  cases pl with
  | v i => exact Option.some.inj (Option.some.inj (a.symm.trans b))
  | f i n =>
    obtain ⟨x, _, _, _, a1, a2, a3⟩ := a
    obtain ⟨y, _, _, _, b1, b2, b3⟩ := b
    rw [a1] at b1; cases b1
    rw [a2] at b2; cases b2
    rw [a3] at b3; cases b3
    rfl
def rS (X : Cx) : TSet := fun o i v H Q => ∀ (pins : List (Addr × Obj)) (s : Shared) (σ : L2.St) (ov iv u : Value), Inv X pins σ H s → RelV o ov → RelV i iv → RelV v u → wpAny (model X.prog X.w) X.A (setItem ov iv u) (fun _ s' => ∃ H', Inv X pins σ H' s' ∧ Q H') X.xe s
theorem set_rs : PSet X (rS X) := fun pins s σ H o i v ov iv u Q I ro ri rv h => h pins s σ ov iv u I ro ri rv
theorem place_ixN {n : Nat} {i : Int} : ixN n i = place i n := rfl
theorem kind12 {k : D} (h : keyKind k ≠ 0) : keyKind k = 1 ∨ keyKind k = 2 := by
  have key : keyKind k = 0 ∨ keyKind k = 1 ∨ keyKind k = 2 := by
    unfold keyKind
    split
    · exact .inr (.inl rfl)
    · exact .inr (.inl rfl)
    · split
      · exact .inr (.inr rfl)
      · exact .inl rfl
    · exact .inl rfl
  exact key.resolve_left h
theorem keyed_kind {k : D} {ds : List (D × D)} (h : keyed k ds = true) : (∃ kk, keyD k = some kk) ∨ ∃ kk, keysD k = some kk ∧ keysOk 2 ds = true := by
  unfold keyed at h
  simp only [Bool.and_eq_true, bne_iff_ne, ne_eq] at h
  rcases kind12 h.1 with e | e
  · exact .inl (keyD_of e)
  · obtain ⟨_, kk, _, hk⟩ := keysD_of e
    rw [e] at h
    exact .inr ⟨kk, hk, h.2⟩
theorem keyed_kind' {k : D} {ds : List (D × D)} (h : keyed k ds = true) : (∃ kk, keyD k = some kk ∧ keysOk 1 ds = true) ∨ ∃ kk, keysD k = some kk := by
  unfold keyed at h
  simp only [Bool.and_eq_true, bne_iff_ne, ne_eq] at h
  rcases kind12 h.1 with e | e
  · obtain ⟨kk, hk⟩ := keyD_of e
    rw [e] at h
    exact .inl ⟨kk, hk, h.2⟩
  · obtain ⟨_, kk, _, hk⟩ := keysD_of e
    exact .inr ⟨kk, hk⟩
/-- behind a store -/
theorem store_run {F : AS} {σ : L2.St} {H : Hp} {fr fr1 : Fr} {own : Nat → AS} {pl : Pl} {o i v : V} {k x : D} {Q : Hp → Prop} (hu : X.A.units + 64 < cLine) (f : FR p X.K F σ H fr own) (po : PlV p σ H pl o) (ri : Rp X.K H (or_ F (Own own)) i k) (rv : Rp X.K H (or_ F (Own own)) v x) (st : storeP fr pl k x = .ok fr1)
    (kk : ∀ H', KT X.K H' → FR p X.K F σ H' fr1 own → Step H (Own own) H' (Own own) → (∀ w d, Rp X.K H (or_ F (Own own)) w d → Rp X.K H' (or_ F (Own own)) w d) → Q H') : rS X o i v H Q := by
  unfold storeP at st
  split at st
  · rename_i c' hc
    cases st
    obtain ⟨c, c1, c2⟩ := Option.bind_eq_some_iff.mp hc
    have ic : isC c = true := by cases c <;> first | rfl | (cases c2)
    obtain ⟨a, fp, h1, h2, h3, ⟨j, h4⟩, h5⟩ := f.put c1 ic
    cases po.inj h1
    have wa : ∀ b, b = a → or_ F (Own own) b := fun b z => by rw [z]; exact .inr ⟨j, h4⟩
    -- the frame when a has changed
    have fin : ∀ (H0 : Hp) (o' : HO), (H0 = H ∨ ∃ u, H0 = upd H a u) → KT X.K (upd H0 a o') → M0 X.K (upd H a o') (or_ F (Own own)) (.ref a) c' fp → Q (upd H0 a o') := fun H0 o' hH0 kt' hm => by
      have e : upd H0 a o' = upd H a o' := by
        rcases hH0 with rfl | ⟨u, rfl⟩
        · rfl
        · rw [upd_upd]
      rw [e] at kt' ⊢
      have stp : Step H (fun b => b = a) (upd H a o') noA := ⟨fun b u e n => by rw [upd_ne n]; exact e, fun _ z => z.elim⟩
      exact kk _ kt' (h5 o' c' kt' hm) ((stp.frame (Own own)).sub (fun b z => z.elim (fun q => by rw [q]; exact ⟨j, h4⟩) id) fun b z => .inr z) fun w d r => r.step (W := fun b => b = a) (W' := noA) (fun _ _ _ z => z) stp wa fun b z => .inl z
    have stp : ∀ o', Step H (fun b => b = a) (upd H a o') noA := fun o' => ⟨fun b u e n => by rw [upd_ne n]; exact e, fun _ z => z.elim⟩
    intro pins s σ' ov iv u I ro rii ru
    cases h2 with
    | d _ _ => cases ic
    | lck _ _ _ => cases ic
    | @lst _ vs xs _ ha ra _ =>
      cases k with
      | int n =>
        obtain ⟨m, m1, m2⟩ := Option.map_eq_some_iff.mp (show (place n xs.length).map (fun k => M.lst (xs.set k x)) = some c' from c2)
        cases m2
        refine thn (set_list pins s σ' H (.ref a) i v ov iv u (fun H' => KT X.K H' → Q H') I ro rii ru ⟨a, vs, n, m, rfl, rp_int ri, ha, by rw [place_ixN, ra.length]; exact m1, fun kt' => ?_⟩) fun _ s' ⟨H', I', q⟩ => ⟨H', I', q (kt_of I')⟩
        exact fin H _ (.inl rfl) kt' (.lst upd_same ((ra.set rv m).step (W := fun b => b = a) (W' := noA) (fun _ _ _ z => z) (stp _) wa fun b z => .inl z) h3)
      | _ => cases c2
    | @dicK _ kvs ds _ ha ra _ =>
      have c2' : (if keyed k ds && decide (ds.length < line) then some (M.dic (dput k x ds)) else none) = some c' := by
        cases k <;> exact c2
      split at c2'
      · rename_i g
        cases c2'
        obtain ⟨g1, g2⟩ := Bool.and_eq_true_iff.mp g
        have g2 : ds.length < line := of_decide_eq_true g2
        cases ro
        rcases keyed_kind g1 with ⟨kk1, hk1⟩ | ⟨kk2, hk2, hds⟩
        · refine d_setItem (by omega) I (.k ha (by rw [ra.length, ← line_eq]; exact g2)) (by rw [← ri.key hk1]; exact rii) ru fun s' I' => ⟨_, I', ?_⟩
          exact fin H _ (.inl rfl) (kt_of I') (.dicK upd_same ((ra.put hk1 rv).step (W := fun b => b = a) (W' := noA) (fun _ _ _ z => z) (stp _) wa fun b z => .inl z) h3)
        · have e0 := ra.keysOk hds
          subst e0
          cases ra
          obtain ⟨b, eb, hb⟩ := ri.keys hk2
          subst eb
          have nab : b ≠ a := fun z => by rw [z, ha] at hb; cases hb
          have I1 := inv_toT I ha
          refine d_setItem (by omega) I1 (.t (kvs := []) upd_same (by rw [upd_ne nab]; exact hb) (by rw [← line_eq]; exact g2)) rii ru fun s' I' => ⟨_, I', ?_⟩
          exact fin _ _ (.inr ⟨_, rfl⟩) (kt_of I') (.dicT upd_same (((EntT.nil (K := X.K)).put hk2 rv).step (W := fun b => b = a) (W' := noA) (fun _ _ _ z => z) (stp _) wa fun b z => .inl z) h3)
      · cases c2'
    | @dicT _ kvs ds _ ha ra _ =>
      have c2' : (if keyed k ds && decide (ds.length < line) then some (M.dic (dput k x ds)) else none) = some c' := by
        cases k <;> exact c2
      split at c2'
      · rename_i g
        cases c2'
        obtain ⟨g1, g2⟩ := Bool.and_eq_true_iff.mp g
        have g2 : ds.length < line := of_decide_eq_true g2
        cases ro
        rcases keyed_kind' g1 with ⟨kk1, hk1, hds⟩ | ⟨kk2, hk2⟩
        · have e0 := ra.keysOk hds
          subst e0
          cases ra
          have I1 := inv_toK I ha
          refine d_setItem (by omega) I1 (.k (kvs := []) upd_same (by rw [← line_eq]; exact g2)) (by rw [← ri.key hk1]; exact rii) ru fun s' I' => ⟨_, I', ?_⟩
          exact fin _ _ (.inr ⟨_, rfl⟩) (kt_of I') (.dicK upd_same (((EntK.nil (K := X.K)).put hk1 rv).step (W := fun b => b = a) (W' := noA) (fun _ _ _ z => z) (stp _) wa fun b z => .inl z) h3)
        · obtain ⟨b, eb, hb⟩ := ri.keys hk2
          subst eb
          refine d_setItem (by omega) I (.t ha hb (by rw [ra.length, ← line_eq]; exact g2)) rii ru fun s' I' => ⟨_, I', ?_⟩
          exact fin H _ (.inl rfl) (kt_of I') (.dicT upd_same ((ra.put hk2 rv).step (W := fun b => b = a) (W' := noA) (fun _ _ _ z => z) (stp _) wa fun b z => .inl z) h3)
      · cases c2'
  · cases st
end
end Mn
/-! Mn, part Q: several targets, stores, fields set; functions. -/
namespace Mn
open PySem L2 PySem.Spec RZ
open PyProof.Rows hiding St

section
variable {p : PC} {N : List Str} {sc : Scope} {top : Bool} {X : Cx} {C : Ctx} {L : Lk} {k : Nat}
/-- a, b = x, y -/
theorem ss_par2 (h : XOk p N sc top X) (hk : sc.kind = .function) {i j : Nat} {cs : CE} {x y : Str} {px py pt pt2 pos : Pos} {kt0 k2 : Nat} {a b : Expr} (hi : N[i]? = some x) (hj : N[j]? = some y) (hx : sc.names.lookup x = some .local) (hy : sc.names.lookup y = some .local) (hl : (py.line == px.line) = true) (hxy : x ≠ y)
    (ok : [a, b].all okE = true) (nf : [a, b].all (foldedForSure 8) = false) (nc : [a, b].all (constantsAlone 8) = false) (ss : SO p C X cs [a, b]) : SS p C X (.par [i, j] cs) (.Assign [.Tuple [.Name x px, .Name y py] kt0 pt] (.Tuple [a, b] k2 pt2) pos) := by
  intro σ H F fr own o D f ev en pins s I
  obtain ⟨⟨os, fr1⟩, q1, q2⟩ := bind_ok (show ((evOs C cs fr).bind fun (os, fr) => (setMs C [i, j] os fr).bind fun fr => R.ok (Out.next fr)) = .ok o from ev)
  obtain ⟨fr2, q3, q4⟩ := bind_ok q2
  cases q4
  have hij : i ≠ j := fun z => hxy (by rw [z, hj] at hi; exact (Option.some.inj hi).symm)
  have kx : X.env.kindOf x = some .local := by show X.env.scope.names.lookup x = _; rw [h.sc]; exact hx
  have ky : X.env.kindOf y = some .local := by show X.env.scope.names.lookup y = _; rw [h.sc]; exact hy
  have sw := swap2 (px := px) (py := py) (pt := pt) (pt2 := pt2) (kt := kt0) (k2 := k2) (bk_of h hk) kx ky hl hxy ok nf nc
  refine (ps_par (i := i) (j := j) h.calm (by rw [h.n]; exact h.nd) (by rw [h.n]; exact hi) (by rw [h.n]; exact hj) hij kx ky (pa_wes ok) sw rfl).run pins s σ H D I ?_
  refine ss σ H F fr own os fr1 _ (kt_of I) f q1 fun vs H1 kt1 hlen ⟨own1, fp, f1, o1, s1, _⟩ => ?_
  have dF := Step.own_new f s1
  have li : i < σ.length := by rw [I.len, h.n]; exact (List.getElem?_eq_some_iff.mp hi).1
  have lj : j < σ.length := by rw [I.len, h.n]; exact (List.getElem?_eq_some_iff.mp hj).1
  cases o1 with
  | nil _ => cases hlen
  | r _ _ =>
    exact nomatch q3
  | f _ _ =>
    exact nomatch q3
  | @v m1 v1 os1 vs1 g1 g2 _ mr1 oo dj ee =>
    obtain ⟨fr3, t1, t2⟩ := bind_ok (show ((setS C fr1 i m1).bind fun fr => setMs C [j] os1 fr) = .ok fr2 from q3)
    obtain ⟨pn1, rfl⟩ := setS_ok t1
    cases oo with
    | nil _ => simp at hlen
    | r _ _ => exact nomatch t2
    | f _ _ => exact nomatch t2
    | @v m2 v2 os2 vs2 g3 g4 _ mr2 oo2 dj2 ee2 =>
      obtain ⟨fr4, t3, t4⟩ := bind_ok (show ((setS C (fr1.set i (some m1)) j m2).bind fun fr => setMs C [] os2 fr) = .ok fr2 from t2)
      obtain ⟨pn2, rfl⟩ := setS_ok t3
      cases os2 with
      | cons _ _ => cases t4
      | nil =>
        cases t4
        cases oo2 with
        | nil ne =>
          have fa := FR.asg (F := or_ F g3) (fp := g1) (i := i) (v := v1) (m := m1) (f1.weak fun a z => by
            rcases z with (z | z) | z
            · exact .inl z
            · exact .inr ((ee a).mpr (.inr ((ee2 a).mpr (.inl z))))
            · exact .inr ((ee a).mpr (.inl z))) (mr1.imp fun a z => by
            rcases z with ((z | z) | z) | z
            · exact .inl (.inl z)
            · exact .inl (.inr ((ee a).mpr (.inr ((ee2 a).mpr (.inl z)))))
            · exact .inl (.inr ((ee a).mpr (.inl z)))
            · exact .inr z) (fun a z q => q.elim (dF a ((ee a).mpr (.inl z))) fun q => dj a z ((ee2 a).mpr (.inl q))) li
          have fb := FR.asg (F := F) (fp := g3) (i := j) (v := v2) (m := m2) fa (mr2.imp fun a z => by
            rcases z with (z | z) | ⟨l, z⟩
            · exact .inl (.inl z)
            · exact .inl (.inr ((ee a).mpr (.inr ((ee2 a).mpr (.inl z)))))
            · by_cases e : l = i
              · subst e; rw [pt_same] at z; exact .inl (.inr ((ee a).mpr (.inl z)))
              · rw [pt_ne e] at z; exact .inr ⟨l, z⟩) (fun a z q => dF a ((ee a).mpr (.inr ((ee2 a).mpr (.inl z)))) q) (by rw [List.length_set]; exact lj)
          refine ⟨v1, v2, rfl, en _ H1 kt1 ⟨_, fb, s1.sub (fun _ z => z) fun a ⟨l, z⟩ => ?_, fun l hl => ?_⟩⟩
          · by_cases e : l = j
            · subst e; rw [pt_same] at z; exact .inr ((ee a).mpr (.inr ((ee2 a).mpr (.inl z))))
            · rw [pt_ne e] at z
              by_cases e' : l = i
              · subst e'; rw [pt_same] at z; exact .inr ((ee a).mpr (.inl z))
              · rw [pt_ne e'] at z; exact .inl ⟨l, z⟩
          · rw [List.getElem?_set_ne (fun e => by subst e; rw [pn2] at hl; cases hl), List.getElem?_set_ne (fun e => by subst e; rw [pn1] at hl; cases hl)]
/-! ### targets, one after another -/
def SGT (p : PC) (C : Ctx) (X : Cx) (ts : List Tg) (es : List Expr) : Prop := ∀ (σ : L2.St) (H : Hp) (F : AS) (fr : Fr) (own : Nat → AS) (xs : List D) (fr1 : Fr) (vs : List V) (Q : L2.St → Hp → Prop), FR p X.K F σ H fr own → RpAll X.K H (or_ F (Own own)) vs xs → tgs C ts xs fr = .ok fr1 →
  (∀ σ' H', KT X.K H' → PostS p X.K C F σ H own fr1 σ' H' → Q σ' H') → WGs X es vs σ H Q
theorem PostS.trans {F : AS} {σ σ1 σ2 : L2.St} {H0 H1 H2 : Hp} {own0 own1 : Nat → AS} {fr2 : Fr} (s : Step H0 (Own own0) H1 (Own own1)) (pn : Pin C σ σ1) (h : PostS p X.K C F σ1 H1 own1 fr2 σ2 H2) : PostS p X.K C F σ H0 own0 fr2 σ2 H2 := let ⟨own, f, s', pn'⟩ := h; ⟨own, f, s.trans s', pn.trans pn'⟩
theorem sgt_nil : SGT p C X [] [] := by
  intro σ H F fr own xs fr1 vs Q f r t k pins s us I ru
  cases xs with
  | cons _ _ => cases t
  | nil =>
    cases t
    cases r
    exact pgs_nil.run pins s σ H [] us Q I ru ⟨rfl, k σ H (kt_of I) ⟨own, f, Step.refl _ _, Pin.refl⟩⟩
theorem sgt_name (h : XOk p N sc top X) {i : Nat} {x : Str} {pos : Pos} {ts : List Tg} {es : List Expr} (b : locB N sc top i x = true) (ss : SGT p C X ts es) : SGT p C X (.v i :: ts) (.Name x pos :: es) := by
  intro σ H F fr own xs fr1 vs Q f r t k
  cases xs with
  | nil => cases t
  | cons d ds =>
    obtain ⟨fr2, t1, t2⟩ := bind_ok (show ((setS C fr i (.d d)).bind fun fr => tgs C ts ds fr) = .ok fr1 from t)
    cases r with
    | @cons v _ vs _ r1 r2 =>
      refine wgs_of (pgs_cons (pg_wg (e := .Name x pos)) (pgs_wgs (e := es)) rfl) ⟨v, vs, rfl, ?_⟩
      refine sg_name h b σ H F fr own d fr2 v _ f r1 t1 fun σ1 ⟨own1, f1, s1, a1⟩ => ?_
      have pn : Pin C σ σ1 := take_pin (tg := [i]) (x := d) (show take C [i] d fr = .ok fr2 from t1) a1
      refine ss σ1 H F fr2 own1 ds fr1 vs Q f1 (r2.imp fun a z => z.elim .inl fun ⟨j, q⟩ => ?_) t2 fun σ2 H2 kt2 po => k σ2 H2 kt2 (PostS.trans s1 pn po)
      rcases s1.2 a ⟨j, q⟩ with q' | q'
      · exact .inr q'
      · obtain ⟨o, e, _⟩ := f1.own_trk a ⟨j, q⟩
        rw [q'] at e; cases e
theorem con_of {fr fr1 : Fr} {pl : Pl} {k x : D} (st : storeP fr pl k x = .ok fr1) : ∃ c, getP fr pl = some c := by
  unfold storeP at st
  split at st
  · rename_i c' hc
    obtain ⟨c, c1, _⟩ := Option.bind_eq_some_iff.mp hc
    exact ⟨c, c1⟩
  · cases st
theorem sgt_sub (h : XOk p N sc top X) {pl : Pl} (cl : isV pl = false → ClOk p X.K) {kd : D} {eo : Expr} {c : Const} {jj : Nat} {cpos pos : Pos} {ts : List Tg} {es : List Expr} (b : plB p N sc pl eo = true) (hc : cstD c = some kd) (ss : SGT p C X ts es) : SGT p C X (.s pl kd :: ts) (.Subscript eo (.Constant c jj cpos) pos :: es) := by
  intro σ H F fr own xs fr1 vs Q f r t k
  cases xs with
  | nil => cases t
  | cons d ds =>
    obtain ⟨fr2, t1, t2⟩ := bind_ok (show ((storeP fr pl kd d).bind fun fr => tgs C ts ds fr) = .ok fr1 from t)
    cases r with
    | @cons v _ vs _ r1 r2 =>
      have pg : PG X (.Subscript eo (.Constant c jj cpos) pos) (gSub (WE X eo) (WE X (.Constant c jj cpos)) (rS X)) := pg_sub pe_we pe_we set_rs (fun _ => rfl)
      refine wgs_of (pgs_cons pg (pgs_wgs (e := es)) rfl) ⟨v, vs, rfl, ?_⟩
      obtain ⟨cc, hcc⟩ := con_of t1
      show WE X eo σ H _
      refine pe_pl h cl b f hcc fun o po => ?_
      intro pins s I
      refine (se_cst (p := p) (C := C) (X := X) (d := kd) hc) σ H F fr own (.d kd) fr _ (kt_of I) f rfl (fun iv H1 kt1 post => ?_) pins s I
      obtain ⟨own1, fp, f1, m1, s1, pp⟩ := post
      obtain ⟨eo1, g1⟩ := pp rfl
      subst eo1
      have f1' : FR p X.K F σ H1 fr own1 := f1.weak fun a z => .inl z
      have po1 : PlV p σ H1 pl o := by
        cases pl with
        | v i => exact po
        | f i n => obtain ⟨a, C', dx, fs, a1, a2, a3⟩ := po; exact ⟨a, C', dx, fs, a1, g1 _ _ a2, a3⟩
      have stg : Step H noA H1 noA := ⟨fun a o e _ => g1 a o e, fun _ z => z.elim⟩
      have rr : ∀ w d, Rp X.K H (or_ F (Own own1)) w d → Rp X.K H1 (or_ F (Own own1)) w d := fun w d r => r.step (W := noA) (W' := noA) (fun _ _ _ z => z) stg (fun _ z => z.elim) fun a z => .inl z
      refine store_run h.units f1' po1 (m1.dat.1.imp fun a z => z.elim (fun q => .inl (.inl q)) .inr) (rr _ _ r1) t1 fun H2 kt2 f2 s2 r2' => ?_
      have st0 : Step H (Own own1) H2 (Own own1) := ((stg.frame (Own own1)).sub (fun a z => z.elim False.elim id) fun a z => .inr z).trans s2
      refine ss σ H2 F fr2 own1 ds fr1 vs Q f2 ?_ t2 fun σ2 H3 kt3 po => k σ2 H3 kt3 (PostS.trans st0 Pin.refl po)
      exact r2.step (kk_of kt2 f2.own_trk) st0 (fun a z => .inr z) fun a z => z.elim (fun q => .inl (.inl q)) .inr
def isTg : Expr → Bool
  | .Name _ _ => true
  | .Subscript _ _ _ => true
  | _ => false
theorem ae_tgs : ∀ {ts : List Expr} {env : Env}, ts.all isTg = true → (assignEach ts env).length = ts.length ∧ (assignEach ts env).findIdx? (·.1) = none
  | [], _, _ => ⟨rfl, rfl⟩
  | e :: r, env, h => by
    rw [List.all_cons, Bool.and_eq_true_iff] at h
    obtain ⟨h1, h2⟩ := ae_tgs (env := env) h.2
    have e0 : assignEach (e :: r) env = (false, assign e env) :: assignEach r env := by
      cases e <;> first | rfl | (cases h.1)
    rw [e0]
    refine ⟨by rw [List.length_cons, List.length_cons, h1], ?_⟩
    rw [List.findIdx?_cons]
    simp [h2]
theorem tgs_len : ∀ {ts : List Tg} {xs : List D} {fr fr1 : Fr}, tgs C ts xs fr = .ok fr1 → xs.length = ts.length
  | [], [], _, _, _ => rfl
  | [], _ :: _, _, _, h => by cases h
  | .v i :: ts, [], _, _, h => by cases h
  | .s pl k :: ts, [], _, _, h => by cases h
  | .v i :: ts, x :: xs, fr, fr1, h => by
    obtain ⟨fr2, t1, t2⟩ := bind_ok (show ((setS C fr i (.d x)).bind fun fr => tgs C ts xs fr) = .ok fr1 from h)
    rw [List.length_cons, List.length_cons, tgs_len t2]
  | .s pl k :: ts, x :: xs, fr, fr1, h => by
    obtain ⟨fr2, t1, t2⟩ := bind_ok (show ((storeP fr pl k x).bind fun fr => tgs C ts xs fr) = .ok fr1 from h)
    rw [List.length_cons, List.length_cons, tgs_len t2]
def noTup : Expr → Bool
  | .Tuple _ _ _ => false
  | _ => true
theorem swapN {t e : Expr} {env : Env} (h : noTup e = true) : swappedStores [t] e env = pure none := by
  cases e <;> first | (cases h; done) | (cases t <;> rfl)
theorem swapF {ts vs : List Expr} {kt0 k2 : Nat} {pt pt2 : Pos} {env : Env} (h : vs.all (foldedForSure 8) = true) : swappedStores [.Tuple ts kt0 pt] (.Tuple vs k2 pt2) env = pure none := by
  unfold swappedStores
  simp only [h, if_true]
  split
  · rfl
  · split
    · rfl
    · split <;> rfl
theorem ss_unp (h : XOk p N sc top X) {tl : List Tg} {ts : List Expr} {c : CE} {e : Expr} {kt0 : Nat} {pt pos : Pos} (tg : ts.all isTg = true) (hl : ts.length = tl.length) (nc : noComp e = true) (sw : swappedStores [.Tuple ts kt0 pt] e X.env = pure none) (se : SE p C X c e) (sg : SGT p C X tl ts) : SS p C X (.unp tl c) (.Assign [.Tuple ts kt0 pt] e pos) := by
  intro σ H F fr own o D f ev en pins s I
  obtain ⟨⟨m, fr1⟩, q1, q2⟩ := bind_ok (show ((evE C c fr).bind fun (m, fr) => match m with
    | .d (.tuple xs) => (tgs C tl xs fr).bind fun fr => R.ok (Out.next fr)
    | _ => .stuck) = .ok o from ev)
  simp only at q2
  split at q2
  · rename_i xs
    obtain ⟨fr2, q3, q4⟩ := bind_ok q2
    cases q4
    obtain ⟨l1, l2⟩ := ae_tgs (env := X.env) tg
    refine (ps_asg pe_we (pg_tup (n := ts.length) h.calm (pgs_wgs (e := ts)) l1 l2) (show swapsWithSole [.Tuple ts kt0 pt] e pos.line X.env = pure false from (sw_ok nc : swapsWith e (some (.Tuple ts kt0 pt)) pos.line X.env = pure false)) sw).run pins s σ H D I ?_
    refine se σ H F fr own _ fr1 _ (kt_of I) f q1 fun v H1 kt1 po => ?_
    obtain ⟨own1, f1, r1, s1⟩ := post_d po
    obtain ⟨a, vs, rfl, ha, na, q⟩ := rp_tup r1
    refine ⟨a, vs, rfl, SqT.of ha, by rw [q.length, tgs_len q3, hl], ?_⟩
    exact sg σ H1 F fr1 own1 xs fr2 vs D.nx f1 q q3 fun σ' H' kt' po' => en σ' H' kt' (PostS.trans s1 Pin.refl po')
  · cases q2
end
end Mn
/-! Mn, part R: op=, stores, fields set; functions. -/
namespace Mn
open PySem L2 PySem.Spec RZ
open PyProof.Rows hiding St

section
variable {p : PC} {N : List Str} {sc : Scope} {top : Bool} {X : Cx} {C : Ctx} {L : Lk} {k : Nat}
def augO : Op → Option Operator
  | .add => some .Add
  | .sub => some .Sub
  | .mul => some .Mult
  | .fdiv => some .FloorDiv
  | _ => none
theorem aug_ip {o : Op} {op : Operator} (h : augO o = some op) {a b z : D} (e : augI o a b = some z) {K : PySem.W.Frag} {H : Hp} {A : AS} {x y : V} (ra : Rp K H A x a) (rb : Rp K H A y b) {pins : List (Addr × Obj)} {s : Shared} {σ : L2.St} {u w : Value} {Q : VK} (I : Inv X pins σ H s) (rx : RelV x u) (ry : RelV y w)
    (k : ∀ v, Rp K H A v z → Q v H) : wpAny (model X.prog X.w) X.A (inplaceOp op u w) (EP X pins σ Q) X.xe s := by
  unfold augI at e
  split at e
  · cases h; cases e; cases ra; cases rb
    exact iop_add pins s σ H _ _ u w Q I rx ry ⟨_, _, rfl, rfl, k _ (.int _)⟩
  · cases h; cases e; cases ra; cases rb
    exact iop_sub pins s σ H _ _ u w Q I rx ry ⟨_, _, rfl, rfl, k _ (.int _)⟩
  · cases h
    split at e
    · rename_i g
      cases e; cases ra; cases rb
      exact iop_mul pins s σ H _ _ u w Q I rx ry ⟨_, _, rfl, rfl, mulOk_c g, k _ (.int _)⟩
    · cases e
  · cases h
    split at e
    · rename_i g
      cases e; cases ra; cases rb
      exact iop_fdiv pins s σ H _ _ u w Q I rx ry ⟨_, _, rfl, rfl, g, k _ (.int _)⟩
    · cases e
  · cases e
def rIp (X : Cx) (op : Operator) : TIp := fun x y H Q => ∀ (pins : List (Addr × Obj)) (s : Shared) (σ : L2.St) (u w : Value), Inv X pins σ H s → RelV x u → RelV y w → wpAny (model X.prog X.w) X.A (inplaceOp op u w) (EP X pins σ Q) X.xe s
theorem ip_r {op : Operator} : PIp X op (rIp X op) := fun pins s σ H x y v u Q I rx ry h => h pins s σ v u I rx ry
theorem ss_aug (h : XOk p N sc top X) {i : Nat} {o : Op} {op : Operator} {c : CE} {e : Expr} {x : Str} {px pos : Pos} (ho : augO o = some op) (b : locB N sc top i x = true) (se : SE p C X c e) : SS p C X (.aug i o c) (.AugAssign (.Name x px) op e pos) := by
  intro σ H F fr own out D f ev en pins s I
  have ev' : (if (getS fr i).isSome then (evE C c fr).bind fun (m, fr) => match getS fr i, m with
    | some (.d x), .d y => match augI o x y with
      | some z => (setS C fr i (.d z)).bind fun fr => R.ok (Out.next fr)
      | none => .stuck
    | _, _ => .stuck
    else .stuck) = .ok out := ev
  split at ev'
  rotate_left
  · cases ev'
  rename_i his
  obtain ⟨m0, hm0⟩ := Option.isSome_iff_exists.mp his
  obtain ⟨⟨m, fr1⟩, q1, q2⟩ := bind_ok ev'
  simp only at q2
  split at q2
  · rename_i xd yd hx
    split at q2
    · rename_i z hz
      obtain ⟨fr2, q3, q4⟩ := bind_ok q2
      cases q4
      obtain ⟨pn, rfl⟩ := setS_ok q3
      obtain ⟨b1, b2⟩ := loc_of b
      have hl : L2.Loc X.env.scope x := by rw [h.sc]; exact b2.imp id And.left
      have hf : X.fn x = true ∨ X.env.scope.names.lookup x = some .local := by
        rcases b2 with b2 | ⟨_, b2⟩
        · exact .inr (by rw [h.sc]; exact b2)
        · exact .inl (h.fn b2 x)
      have li : i < σ.length := by rw [I.len, h.n]; exact (List.getElem?_eq_some_iff.mp b1).1
      obtain ⟨w0, hw0, _⟩ := f.slot i m0 hm0
      refine (ps_aug (by rw [h.n]; exact h.nd) (by rw [h.n]; exact b1) hl pe_we ip_r hf).run pins s σ H D I ⟨w0, hw0, ?_⟩
      refine se σ H F fr own _ fr1 _ (kt_of I) f q1 fun v H1 kt1 po => ?_
      obtain ⟨own1, f1, r1, s1⟩ := post_d po
      obtain ⟨w, h1, h2⟩ := slot_dat f1 hx
      rw [hw0] at h1; cases h1
      intro pins' s' σ' u w' I' ru rw'
      refine aug_ip ho hz h2 r1 I' ru rw' fun v3 r3 => ?_
      obtain ⟨own2, f2, s2, a2⟩ := set_dat f1 r3 li
      exact en _ H1 kt1 ⟨own2, f2, s1.trans s2, fun j hj => a2.2 j fun z => by
        rw [List.mem_singleton] at z
        rw [z, pn] at hj; cases hj⟩
    · cases q2
  · cases q2
/-! ### p[k] = v -/
theorem ss_sto (h : XOk p N sc top X) {pl : Pl} (cl : isV pl = false → ClOk p X.K) {ck cv : CE} {eo ek ev0 : Expr} {spos pos : Pos} (b : plB p N sc pl eo = true) (nc : noComp ev0 = true) (sv : SE p C X cv ev0) (sk : SE p C X ck ek) : SS p C X (.sto pl ck cv) (.Assign [.Subscript eo ek spos] ev0 pos) := by
  intro σ H F fr own o D f ev en pins s I
  obtain ⟨⟨m, fr1⟩, q1, q2⟩ := bind_ok (show ((evE C cv fr).bind fun (m, fr) => match m.fz with
    | none => R.stuck
    | some x => if isCon pl fr && (isV pl || pureE ck) then (evE C ck fr).bind fun (mk, fr) => match mk with
      | .d k => (storeP fr pl k x).bind fun fr => R.ok (Out.next fr)
      | _ => .stuck
      else .stuck) = .ok o from ev)
  simp only at q2
  split at q2
  · cases q2
  · rename_i x hx
    split at q2
    · rename_i g
      obtain ⟨g1, g2⟩ := Bool.and_eq_true_iff.mp g
      obtain ⟨⟨mk, fr2⟩, q3, q4⟩ := bind_ok q2
      simp only at q4
      split at q4
      · rename_i kd
        obtain ⟨fr3, q5, q6⟩ := bind_ok q4
        cases q6
        obtain ⟨cc, hcc⟩ : ∃ c, getP fr1 pl = some c := by
          unfold isCon at g1
          split at g1
          · exact ⟨_, by assumption⟩
          · exact ⟨_, by assumption⟩
          · cases g1
        refine wpAny_Assign_Subscript (?_ : wpAny _ _ (eval ev0 X.env) _ _ s) (sw_ok nc)
        refine thn (sv_elem sv (Q := fun v H1 => PostD p X.K F σ H own fr1 x v H1) (kt_of I) f q1 hx (fun _ _ _ z => z) pins s I) fun uv s1 ⟨vv, H1, I1, rv, own1, f1, r1, s1'⟩ => ?_
        refine thn (pe_pl h cl b (Q := fun v H' => H' = H1 ∧ PlV p σ H1 pl v) f1 hcc (fun v z => ⟨rfl, z⟩) pins s1 I1) fun uo s2 ⟨vo, H2, I2, ro, e2, po⟩ => ?_
        subst e2
        refine thn (sk σ H2 F fr1 own1 _ fr2 (fun v H' => Post p X.K (pureE ck) F σ H2 own1 fr2 (.d kd) v H') (kt_of I2) f1 q3 (fun _ _ _ z => z) pins s2 I2) fun uk s3 ⟨vk, H3, I3, rk, po3⟩ => ?_
        have po3' : PlV p σ H3 pl vo := by
          cases pl with
          | v i => exact po
          | f i n =>
            obtain ⟨_, _, _, _, _, pp⟩ := po3
            have pk : pureE ck = true := by simpa [isV] using g2
            obtain ⟨_, gr⟩ := pp pk
            obtain ⟨a, C', dx, fs, a1, a2, a3⟩ := po
            exact ⟨a, C', dx, fs, a1, gr _ _ a2, a3⟩
        obtain ⟨own3, f3, r3, s3'⟩ := post_d po3
        have rv3 := r1.on (kt_of I3) f3 s3'
        refine thn (store_run (Q := fun H' => D.nx σ H') h.units f3 po3' r3 rv3 q5 (fun H4 kt4 f4 s4 _ => en σ H4 kt4 ⟨own3, f4, (s1'.trans s3').trans s4, Pin.refl⟩) pins s3 σ uo uk uv I3 ro rk rv) fun _ s4 ⟨H4, I4, q⟩ => ⟨σ, H4, I4, q⟩
      · cases q4
    · cases q2
/-! ### fields set -/
theorem putF_same {f : Str} {v : V} : ∀ {fs : List (Str × V)}, fs.lookup f ≠ none → (putF f v fs).length = fs.length
  | [], h => absurd rfl h
  | (g, x) :: r, h => by
    unfold putF
    by_cases e : g = f
    · rw [if_pos e]; rfl
    · rw [if_neg e, List.length_cons, List.length_cons, putF_same]
      rw [List.lookup_cons] at h
      have : (f == g) = false := by simpa using Ne.symm e
      rw [this] at h
      exact h
theorem fput_len {n : Nat} {m : M} : ∀ {fs : List (Nat × M)}, fget n fs = none → (fput n m fs).length = fs.length + 1
  | [], _ => rfl
  | (j, u) :: r, h => by
    unfold fget at h
    by_cases e : j = n
    · rw [if_pos e] at h; cases h
    · rw [if_neg e] at h
      unfold fput
      rw [if_neg e, List.length_cons, List.length_cons, fput_len h]
theorem ss_fsto (h : XOk p N sc top X) (cl : ClOk p X.K) (inj : ∀ a b, p.kn a = true → p.kn b = true → p.fnm a = p.fnm b → a = b) {i n : Nat} (hkn : p.kn n = true) {c : CE} {e : Expr} {x : Str} {px apos pos : Pos} (b : nameB N sc i x = true) (nc : noComp e = true) (se : SE p C X c e) : SS p C X (.fsto i n c) (.Assign [.Attribute (.Name x px) (p.fnm n) apos] e pos) := by
  intro σ H F fr own o D f ev en pins s I
  obtain ⟨⟨m, fr1⟩, q1, q2⟩ := bind_ok (show ((evE C c fr).bind fun (m, fr) => match getS fr i with
    | some (.ins c fs) => if isFl m && decide (fs.length < 900) then R.ok (Out.next (fr.set i (some (.ins c (fput n m fs))))) else .stuck
    | _ => .stuck) = .ok o from ev)
  simp only at q2
  split at q2
  · rename_i cc fs hs
    split at q2
    · rename_i g
      obtain ⟨g1, g2⟩ := Bool.and_eq_true_iff.mp g
      have g2 : fs.length < 900 := of_decide_eq_true g2
      cases q2
      refine (ps_fld (o := .Name x px) pe_we pe_we (sw_ok nc)).run pins s σ H D I ?_
      refine se σ H F fr own m fr1 _ (kt_of I) f q1 fun v H1 kt1 ⟨own1, fp, f1, m1, s1, _⟩ => ?_
      have dF := Step.own_new f s1
      obtain ⟨w, h1, h2⟩ := f1.slot i _ hs
      cases h2 with
      | b z => cases z
      | @ins ax dx _ fsV _ fo _ hx fl nx q =>
        refine we_of (pe_name h b) ⟨_, h1, ax, _, dx, fsV, rfl, hx, cl.cls _, cl.no _ _ hkn, by have := fl.few; omega, ?_⟩
        have oax : own1 i ax := (q ax).mpr (.inl rfl)
        have m0 : M0 X.K H1 (or_ (or_ F fp) (Own own1)) v m fp := by
          cases m1 with
          | b z => exact z
          | ins _ _ _ _ => cases g1
        -- the new footprints
        let fo' : Nat → AS := fun k => if k = n then fp else fo k
        let fpi : AS := fun b => b = ax ∨ ∃ k, fo' k b
        have kt2 : KT X.K (upd H1 ax (.ins (p.cls cc) dx (putF (p.fnm n) v fsV))) := kt_upd kt1 hx
        have stp : Step H1 (fun b => b = ax) (upd H1 ax (.ins (p.cls cc) dx (putF (p.fnm n) v fsV))) noA := ⟨fun b u e n => by rw [upd_ne n]; exact e, fun _ z => z.elim⟩
        have wax : ∀ b, b = ax → or_ (or_ F fp) (Own own1) b := fun b z => by rw [z]; exact .inr ⟨i, oax⟩
        have fpax : ¬ fp ax := fun z => f1.forn i ax oax (.inr z)
        have sub : ∀ a, Own (pt own1 i fpi) a → fp a ∨ Own own1 a := fun a ⟨j, z⟩ => by
          by_cases e : j = i
          · subst e
            rw [pt_same] at z
            rcases z with z | ⟨k, z⟩
            · exact .inr ⟨j, by rw [z]; exact oax⟩
            · by_cases e' : k = n
              · have : fo' k a = fp a := by show (if k = n then fp else fo k) a = _; rw [if_pos e']
                rw [this] at z; exact .inl z
              · have : fo' k a = fo k a := by show (if k = n then fp else fo k) a = _; rw [if_neg e']
                rw [this] at z; exact .inr ⟨j, (q a).mpr (.inr ⟨k, z⟩)⟩
          · rw [pt_ne e] at z; exact .inr ⟨j, z⟩
        have aa : ∀ a, or_ F (Own (pt own1 i fpi)) a → or_ (or_ F fp) (Own own1) a := fun a z => by
          rcases z with z | z
          · exact .inl (.inl z)
          · rcases sub a z with z | z
            · exact .inl (.inr z)
            · exact .inr z
        have fok : ∀ k, k ≠ n → fo' k = fo k := fun k e => by show (if k = n then fp else fo k) = _; rw [if_neg e]
        have fon : fo' n = fp := by show (if n = n then fp else fo n) = _; rw [if_pos rfl]
        have hi := getS_lt hs
        refine en σ _ kt2 ⟨pt own1 i fpi, ⟨by rw [List.length_set]; exact f1.len, fun j m' ej => ?_, fun j ej a z => ?_, fun j k a y z => ?_, fun j a z qF => ?_, fun a z => ?_⟩, ?_, Pin.refl⟩
        · rw [getS_set hi] at ej
          by_cases e : j = i
          · subst e
            rw [if_pos rfl] at ej
            cases ej
            rw [pt_same]
            refine ⟨_, h1, .ins (fo := fo') upd_same ⟨fun k m hk => ?_, fun k hk => ?_, fun y u hy => ?_, fun a b c y z => ?_, ?_, fun k m hk => ?_⟩ (fun k z => ?_) fun b => Iff.rfl⟩
            · rw [fget_fput] at hk
              by_cases kn : k = n
              · subst kn
                rw [if_pos rfl] at hk
                cases hk
                refine ⟨v, by rw [lookup_putF, if_pos rfl], ?_⟩
                rw [fon]
                exact m0.step (W := fun b => b = ax) (W' := noA) (fun _ _ _ z => z) stp wax (fun a z => .inl (aa a z)) fun a z w => fpax (w ▸ z)
              · rw [if_neg kn] at hk
                obtain ⟨w, w1, w2⟩ := fl.has k m hk
                refine ⟨w, by rw [lookup_putF, if_neg (fun e => kn (inj _ _ (fl.kn k m hk) hkn e))]; exact w1, ?_⟩
                rw [fok k kn]
                exact w2.step (W := fun b => b = ax) (W' := noA) (fun _ _ _ z => z) stp wax (fun a z => .inl (aa a z)) fun a z w => nx k (w ▸ z)
            · rw [fget_fput] at hk
              by_cases kn : k = n
              · rw [if_pos kn] at hk; cases hk
              · rw [if_neg kn] at hk
                rw [fok k kn]
                exact fl.no k hk
            · rw [lookup_putF] at hy
              by_cases e : y = p.fnm n
              · exact ⟨n, e, by rw [fget_fput, if_pos rfl]; simp⟩
              · rw [if_neg e] at hy
                obtain ⟨k, k1, k2⟩ := fl.only y u hy
                exact ⟨k, k1, by rw [fget_fput, if_neg (fun z => e (by rw [k1, z]))]; exact k2⟩
            · by_cases ea : a = n
              · by_cases eb : b = n
                · rw [ea, eb]
                · rw [ea, fon] at y
                  rw [fok b eb] at z
                  exact absurd (.inr y) (f1.forn j c ((q c).mpr (.inr ⟨b, z⟩)))
              · by_cases eb : b = n
                · rw [eb, fon] at z
                  rw [fok a ea] at y
                  exact absurd (.inr z) (f1.forn j c ((q c).mpr (.inr ⟨a, y⟩)))
                · rw [fok a ea] at y
                  rw [fok b eb] at z
                  exact fl.disj a b c y z
            · cases gn : fget n fs with
              | none => rw [fput_len gn]; have := length_putF (p.fnm n) v fsV; have := fl.few; omega
              | some u =>
                obtain ⟨w, w1, _⟩ := fl.has n u gn
                rw [fput_length (by rw [gn]; simp), putF_same (by rw [w1]; simp)]; exact fl.few
            · rw [fget_fput] at hk
              by_cases kn : k = n
              · rw [kn]; exact hkn
              · rw [if_neg kn] at hk; exact fl.kn k m hk
            · by_cases kn : k = n
              · rw [kn, fon] at z; exact fpax z
              · rw [fok k kn] at z; exact nx k z
          · rw [if_neg e] at ej
            rw [pt_ne e]
            obtain ⟨w, w1, w2⟩ := f1.slot j m' ej
            exact ⟨w, w1, w2.step (W := fun b => b = ax) (W' := noA) (fun _ _ _ z => z) stp wax (fun a z => .inl (aa a z)) fun a z w => e (f1.disj j i ax (w ▸ z) oax)⟩
        · rw [getS_set hi] at ej
          by_cases e : j = i
          · rw [if_pos e] at ej; cases ej
          · rw [if_neg e] at ej
            rw [pt_ne e] at z
            exact f1.non j ej a z
        · have fi : ∀ j, j ≠ i → own1 j a → fpi a → False := fun j e y z => by
            rcases sub a ⟨i, by rw [pt_same]; exact z⟩ with w | _
            · exact f1.forn j a y (.inr w)
            · rcases z with z | ⟨k, z⟩
              · exact e (f1.disj j i a y (by rw [z]; exact oax))
              · by_cases kn : k = n
                · rw [kn, fon] at z; exact f1.forn j a y (.inr z)
                · rw [fok k kn] at z; exact e (f1.disj j i a y ((q a).mpr (.inr ⟨k, z⟩)))
          by_cases ej : j = i
          · by_cases ek : k = i
            · rw [ej, ek]
            · rw [ej, pt_same] at y
              rw [pt_ne ek] at z
              exact (fi k ek z y).elim
          · by_cases ek : k = i
            · rw [ek, pt_same] at z
              rw [pt_ne ej] at y
              exact (fi j ej y z).elim
            · rw [pt_ne ej] at y
              rw [pt_ne ek] at z
              exact f1.disj j k a y z
        · rcases sub a ⟨j, z⟩ with w | ⟨l, w⟩
          · exact dF a w qF
          · exact f1.forn l a w (.inl qF)
        · by_cases e : a = ax
          · exact absurd z (fun z => f1.forn i a (by rw [e]; exact oax) (.inl z))
          · obtain ⟨u, eu, nu⟩ := f1.trk a (.inl z)
            exact ⟨u, by rw [upd_ne e]; exact eu, nu⟩
        · refine s1.trans (((stp.frame (or_ (Own own1) fp)).sub (fun a z => ?_) fun a z => ?_))
          · rcases z with z | z
            · exact .inl ⟨i, by rw [z]; exact oax⟩
            · exact z
          · rcases sub a z with w | w
            · exact .inr (.inr w)
            · exact .inr (.inl w)
    · cases q2
  · cases q2
end
end Mn
/-! Mn, part S: functions keep the machine's promise. -/
namespace Mn
open PySem L2 PySem.Spec RZ
open PyProof.Rows hiding St

section
variable {p : PC} {K : PySem.W.Frag} {H : Hp}
theorem getS_app {a b : Fr} {i : Nat} : getS (a ++ b) i = if i < a.length then getS a i else getS b (i - a.length) := by
  unfold getS
  by_cases h : i < a.length
  · rw [if_pos h, List.getElem?_append_left h]
  · rw [if_neg h, List.getElem?_append_right (by omega)]
theorem getS_rep {n i : Nat} : getS (List.replicate n none) i = none := by
  unfold getS
  rw [List.getElem?_replicate]
  split <;> rfl
theorem FR.pad {F : AS} {vs : List V} {ms : List M} {own : Nat → AS} {n : Nat} (f : FR p K F (vs.map some) H (ms.map some) own) : FR p K F (vs.map some ++ List.replicate n none) H (ms.map some ++ List.replicate n none) own := by
  refine ⟨by rw [List.length_append, List.length_append, f.len, List.length_replicate, List.length_replicate], fun i m e => ?_, fun i e a z => ?_, f.disj, f.forn, f.trk⟩
  · rw [getS_app] at e
    split at e
    · rename_i h
      obtain ⟨v, h1, h2⟩ := f.slot i m e
      refine ⟨v, ?_, h2⟩
      rw [List.getElem?_append_left (by rw [← f.len]; exact h)]; exact h1
    · rw [getS_rep] at e; cases e
  · rw [getS_app] at e
    split at e
    · exact f.non i e a z
    · rename_i h
      exact f.non i (by unfold getS; rw [List.getElem?_eq_none (by omega)]; rfl) a z
theorem outs_get {fn : Fn} {fr : Fr} {i : Nat} : getS (outs fn fr) i = if i < fn.ps ∧ fn.pin.contains i = true then getS fr i else none := by
  unfold outs getS
  rw [List.getElem?_map]
  by_cases h : i < fn.ps
  · rw [List.getElem?_range h]
    by_cases q : fn.pin.contains i = true
    · rw [if_pos ⟨h, q⟩]
      simp only [Option.map_some, q, if_true]
      rfl
    · rw [if_neg fun z => q z.2]
      simp only [Option.map_some, q, Bool.false_eq_true, if_false]
      rfl
  · rw [if_neg fun z => h z.1, List.getElem?_eq_none (by rw [List.length_range]; omega)]
    rfl
theorem outs_length {fn : Fn} {fr : Fr} : (outs fn fr).length = fn.ps := by unfold outs; rw [List.length_map, List.length_range]
end
section
variable {p : PC} {P : Program} {w : World} {K : PySem.W.Frag} {mg : Str → Option Value} {base : Heap}
/-- the context is one of this law's -/
structure Same (P : Program) (w : World) (K : PySem.W.Frag) (mg : Str → Option Value) (base : Heap) (X : Cx) : Prop where
  prog : X.prog = P
  w : X.w = w
  K : X.K = K
  mg : X.mg = mg
  base : X.base = base
theorem fnG_of {T : Nat → Option Fn} {glb : Nat → Option D} {fuel n k f0 : Nat} {fn : Fn} {f : Addr} {name qual : Str} {params : Arguments} {body : List Stmt} {scope : Scope} {dV kV doc pm cdv ct oc : Value} {an od : Option Addr} {osl : Array (Option Value)} {N ps : List Str}
    (look : K.lookup f = some ⟨oc, od, .func (PySem.W.fnOf name qual params body scope dV kV doc pm an cdv ct), osl⟩) (codeAt : PySem.W.codeIn K cdv qual = true) (S : FnScope N ps scope) (hT : T f0 = some fn) (h1 : fn.ps = ps.length) (h2 : fn.many = N.length) (blt : ∀ x ∈ BN, mg x = none)
    (hb : ∀ X : Cx, Same P w K mg base X → XOk p N scope true X → PassesOwn (model X.prog X.w) X.A X.env X.xe → Room k X.A → SSs p ⟨callN T glb fuel n, glb, fn.pin.contains, fuel⟩ X fn.body body) :
    FnG P w K mg base (k + 1) f (PySem.W.fnOf name qual params body scope dV kV doc pm an cdv ct) ps (spF p K (callN T glb fuel (n + 1)) f0) := by
  have short : ps.length ≤ N.length := by have := congrArg List.length S.pre; rw [List.length_take] at this; omega
  have cal : ∀ {ms r out}, callN T glb fuel (n + 1) f0 ms = .ok (r, out) → ms.length = ps.length ∧ ∃ o, exS ⟨callN T glb fuel n, glb, fn.pin.contains, fuel⟩ fn.body (ms.map some ++ List.replicate (fn.many - fn.ps) none) = .ok o ∧ ((∃ fr, o = .ret r fr ∧ out = outs fn fr) ∨ ∃ fr, o = .next fr ∧ r = .d .none ∧ out = outs fn fr) := fun {ms r out} e => by
    have e' : (match T f0 with
      | none => R.stuck
      | some fn => if ms.length = fn.ps then
        match exS ⟨callN T glb fuel n, glb, fn.pin.contains, fuel⟩ fn.body (ms.map some ++ List.replicate (fn.many - fn.ps) none) with
        | .ok (.ret m fr) => .ok (m, outs fn fr)
        | .ok (.next fr) => .ok (.d .none, outs fn fr)
        | .exc e fr => .exc e (outs fn fr)
        | _ => .stuck
      else .stuck) = .ok (r, out) := e
    rw [hT] at e'
    simp only at e'
    split at e'
    · rename_i hl
      refine ⟨hl.trans h1, ?_⟩
      split at e'
      · rename_i m fr eqEnv
        cases e'
        exact ⟨_, eqEnv, .inl ⟨fr, rfl, rfl⟩⟩
      · rename_i fr eqEnv
        cases e'
        exact ⟨_, eqEnv, .inr ⟨fr, rfl, rfl, rfl⟩⟩
      · cases e'
      · cases e'
    · cases e'
  refine ⟨fun vs H Q ⟨ms, F, own, r, out, hl, _, hc, _⟩ => by rw [← hl]; exact (cal hc).1, fun A outer s H args us vs Q E hr gu e0 bnd r hsp => ?_⟩
  obtain ⟨ms, F, own, rm, out, hlen, f0', hc, kk⟩ := hsp
  obtain ⟨hml, o, hex, ho⟩ := cal hc
  have hl : vs.length = ps.length := hlen.symm.trans hml
  have inK : K.In s.heap := e0.mod.kin.keeps fun b o e => (e0.bs b o e).1
  have nolim : s.heap.NoLimit := e0.mod.nolimit.keeps fun b o e => (e0.bs b o e).1
  have kinds : ∀ y ∈ ps.zip us, scope.names.lookup y.1 = some .local ∨ (scope.names.lookup y.1 = some .cell ∧ ((cellsFrom (s.heap.objs.size + 1) scope.names []).lookup y.1).isSome = true) := fun ⟨n, v⟩ hy => by
    rcases S.par n (List.of_mem_zip hy).1 with q1 | q2
    · exact .inl q1
    · exact .inr ⟨q2, PySem.W.cellsFrom_some _ _ _ (.inl q2)⟩
  refine codeAny_call_function hr.depth (inK _ _ look) rfl S.co S.gen rfl (PySem.W.codeRec_of inK codeAt) (bnd _ _ _ _ ?_)
  refine wpAny_newFunctionEnv_cells S.kind kinds fun env eqEnv s1 x => ?_
  subst eqEnv
  refine ⟨nolim.keeps x.toInCall.keep, codeAny_func ?_⟩
  have I : Inv (cxOf CXn P w K mg base N qual scope f cdv A outer s H E) [] (start N vs) H s1 := inv_start S hr.hd e0 hl r x
  have rk : Room k (A.deeper (envOfC qual scope s.heap.objs.size f cdv)) := hr.deeper _
  have xok : XOk p N scope true (cxOf CXn P w K mg base N qual scope f cdv A outer s H E) := ⟨rfl, S.nd, rfl, rfl, rk.units, gu, blt, fun _ _ => rfl⟩
  have hp : PassesOwn (model P w) (A.deeper (envOfC qual scope s.heap.objs.size f cdv)) (envOfC qual scope s.heap.objs.size f cdv) (cxOf CXn P w K mg base N qual scope f cdv A outer s H E).xe := PassesOwn.leaving
  have fin : ∀ {σ' : L2.St} {H' : Hp} {v : V} {u : Value} {s' : Shared}, Inv (cxOf CXn P w K mg base N qual scope f cdv A outer s H E) [] σ' H' s' → RelV v u → Q v H' → L2.CE outer P w H s Q u s' :=
    fun {σ' H' v u s'} J1 rv q => ⟨v, H', J1.os, J1.bare, J1.base, J1.hok, rv, q⟩
  have body' := hb _ ⟨rfl, rfl, rfl, rfl, rfl⟩ xok hp rk
  have hst : start N vs = vs.map some ++ List.replicate (fn.many - fn.ps) none := by unfold L2.start; rw [h1, h2, hl]
  have fs := f0'.pad (n := fn.many - fn.ps)
  rw [← hst] at fs
  -- the parameters behind
  have fo : ∀ {σ' : L2.St} {H' : Hp} {fr : Fr} {own' : Nat → AS} {G : AS}, FR p K G σ' H' fr own' → Pin ⟨callN T glb fuel n, glb, fn.pin.contains, fuel⟩ (start N vs) σ' → ∃ ownO, FR p K G (vs.map some) H' (outs fn fr) ownO ∧ ∀ a, Own ownO a → Own own' a := fun {σ' H' fr own' G} f' pn => by
    have sub : ∀ a, Own (fun i => if i < fn.ps ∧ fn.pin.contains i = true then own' i else noA) a → Own own' a := fun a ⟨i, z⟩ => by
      have z : (if i < fn.ps ∧ fn.pin.contains i = true then own' i else noA) a := z
      split at z
      · exact ⟨i, z⟩
      · exact z.elim
    have at_ : ∀ {i a}, (fun i => if i < fn.ps ∧ fn.pin.contains i = true then own' i else noA) i a → (i < fn.ps ∧ fn.pin.contains i = true) ∧ own' i a := fun {i a} z => by
      have z : (if i < fn.ps ∧ fn.pin.contains i = true then own' i else noA) a := z
      split at z
      · exact ⟨by assumption, z⟩
      · exact z.elim
    refine ⟨fun i => if i < fn.ps ∧ fn.pin.contains i = true then own' i else noA, ⟨by rw [outs_length, List.length_map, hl, h1], fun i m e => ?_, fun i e a z => ?_, fun i j a y z => f'.disj i j a (at_ y).2 (at_ z).2, fun i a z => f'.forn i a (at_ z).2, f'.trk⟩, sub⟩
    · rw [outs_get] at e
      split at e
      · rename_i g
        obtain ⟨v, q1, q2⟩ := f'.slot i m e
        rw [pn i g.2, hst, List.getElem?_append_left (by rw [List.length_map, hl, ← h1]; exact g.1)] at q1
        refine ⟨v, q1, ?_⟩
        rw [if_pos g]
        exact q2.imp fun a z => z.imp id (sub a)
      · cases e
    · obtain ⟨g, z⟩ := at_ z
      rw [outs_get, if_pos g] at e
      exact f'.non i e a z
  refine wpAny_mono (body' (start N vs) H F _ own o { nx := fun _ H' => Q .non H', rt := Q } fs hex (?_ : EndOk p K _ F (start N vs) H own o _) [] s1 I) (fun fl s' ends => ?_) fun e s' ends => ends
  · rcases ho with ⟨fr, rfl, rfl⟩ | ⟨fr, rfl, rfl, rfl⟩
    · intro v H' kt' ⟨σ', own', fp, f', mr, st, pn⟩
      obtain ⟨ownO, g1, g2⟩ := fo f' pn
      exact kk v H' ownO fp kt' g1 (mr.imp fun a z => z.imp id (g2 a)) (st.sub (fun _ z => z) fun a z => z.imp (g2 a) id)
    · intro σ' H' kt' ⟨own', f', st, pn⟩
      obtain ⟨ownO, g1, g2⟩ := fo f' pn
      exact kk .non H' ownO noA kt' (g1.weak fun a z => z.elim id False.elim) (.b (.d .none fun _ z => z)) (st.sub (fun _ z => z) fun a z => z.elim (g2 a) False.elim)
  · cases fl with
    | ret u =>
      obtain ⟨v, σ', H', J1, rv, q⟩ := ends
      exact fin J1 rv q
    | next =>
      obtain ⟨σ', H', J1, q⟩ := ends
      exact fin (v := V.non) (u := Value.none) J1 rfl q
    | brk =>
      obtain ⟨_, _, _, q⟩ := ends
      exact False.elim q
    | cont =>
      obtain ⟨_, _, _, q⟩ := ends
      exact False.elim q
end
end Mn
/-! Mn, part T: the machine's text is checked against the program's. -/
namespace Mn
open PySem L2 PySem.Spec RZ
open PyProof.Rows hiding St

/-- names: of constants, functions, methods, classes, fields -/
structure Tab where
  gn : Nat → Str
  fn : Nat → Option Str
  me : Nat → Nat → Option Str
  mkc : Nat → Nat → Option Str
  fl : Nat → Option Str
  has : Bool
  kw : Nat → List Str → List Nat → Bool
structure TabOk (t : Tab) (p : PC) (L : Lk) (k : Nat) (X : Cx) (C : Ctx) : Prop where
  gn : GlbOk C.glb t.gn X
  fn : ∀ f x, t.fn f = some x → CallOk p X C L k f ∧ L.nm f = x ∧ X.mg x = some (.ref (L.ad f)) ∧ (x == ("__debug__" : Str)) = false
  me : ∀ c f m, t.me c f = some m → CallOk p X C L k f ∧ MeOk p L X.K c f m
  mkc : ∀ c f x, t.mkc c f = some x → CallOk p X C L k f ∧ Mk X.K (p.cls c) (L.ad f) ∧ X.mg x = some (.ref (p.cls c)) ∧ (x == ("__debug__" : Str)) = false
  cl : t.has = true → ClOk p X.K ∧ ∀ a b, p.kn a = true → p.kn b = true → p.fnm a = p.fnm b → a = b
  fl : ∀ n x, t.fl n = some x → p.fnm n = x ∧ p.kn n = true
  kw : ∀ f ks pm, t.kw f ks pm = true → KwTo X.K (L.fd f) (L.ps f) ks pm ∧ pm.length = (L.ps f).length ∧ pm.Perm (List.range ks.length)
def binO : Op → Option Operator
  | .add => some .Add | .sub => some .Sub | .mul => some .Mult | .fdiv => some .FloorDiv | .mod => some .Mod | .pow => some .Pow
  | _ => none
def cmpO : Op → Option CmpOp
  | .lt => some .Lt | .le => some .LtE | .gt => some .Gt | .ge => some .GtE | .eq => some .Eq | .ne => some .NotEq | .is_ => some .Is | .isn => some .IsNot | .in_ => some .In | .nin => some .NotIn
  | _ => none
def fnO1 : Op → Option Str
  | .len => some "len" | .all => some "all" | .any => some "any" | .sorted => some "sorted" | .tuple => some "tuple" | .list => some "list" | .abs => some "abs" | .int => some "int" | .bool => some "bool" | .str => some "str" | .repr => some "repr"
  | _ => none
def fnO2 : Op → Option Str
  | .max2 => some "max" | .min2 => some "min" | .divmod => some "divmod"
  | _ => none
def tyO : Ty → Option Str
  | .int => some "int" | .bool => some "bool" | .str => some "str" | .tuple => some "tuple" | .list => some "list" | .none_ => none
def opSh (sc : Scope) : Op → Expr → Option (List Expr)
  | .rev, .Subscript a (.Slice none none (some (.UnaryOp .USub (.Constant (.int 1) _ _) _)) _) _ => some [a]
  | .lrev, .Call (.Name f _) [.Call (.Name g _) [a] [] _] [] _ => if f = "list" ∧ g = "reversed" ∧ glB sc f = true ∧ glB sc g = true ∧ okE a = true then some [a] else none
  | .sset, .Call (.Name f _) [.Call (.Name g _) [a] [] _] [] _ => if f = "sorted" ∧ g = "set" ∧ glB sc f = true ∧ glB sc g = true ∧ okE a = true then some [a] else none
  | .rng1, .Call (.Name f _) [.Call (.Name g _) [a] [] _] [] _ => if f = "list" ∧ g = "range" ∧ glB sc f = true ∧ glB sc g = true ∧ okE a = true then some [a] else none
  | .trng1, .Call (.Name f _) [.Call (.Name g _) [a] [] _] [] _ => if f = "tuple" ∧ g = "range" ∧ glB sc f = true ∧ glB sc g = true ∧ okE a = true then some [a] else none
  | .rng2, .Call (.Name f _) [.Call (.Name g _) [a, b] [] _] [] _ => if f = "list" ∧ g = "range" ∧ glB sc f = true ∧ glB sc g = true ∧ okE a = true ∧ okE b = true then some [a, b] else none
  | .trng2, .Call (.Name f _) [.Call (.Name g _) [a, b] [] _] [] _ => if f = "tuple" ∧ g = "range" ∧ glB sc f = true ∧ glB sc g = true ∧ okE a = true ∧ okE b = true then some [a, b] else none
  | o, .BinOp a op b _ => if binO o = some op then some [a, b] else none
  | o, .Compare a [op] [b] _ => if cmpO o = some op ∧ okE b = true then some [a, b] else none
  | .neg, .UnaryOp .USub a _ => some [a]
  | .slice true true, .Subscript a (.Slice (some b) (some c) none _) _ => some [a, b, c]
  | .slice true false, .Subscript a (.Slice (some b) none none _) _ => some [a, b]
  | .slice false true, .Subscript a (.Slice none (some b) none _) _ => some [a, b]
  | .idx, .Subscript a b _ => if okE b = true then some [a, b] else none
  | .isi [t], .Call (.Name f _) [a, .Name x _] [] _ => if f = "isinstance" ∧ tyO t = some x ∧ glB sc f = true ∧ glB sc x = true ∧ okE a = true then some [a] else none
  | o, .Call (.Name x _) [a] [] _ => if fnO1 o = some x ∧ glB sc x = true ∧ okE a = true then some [a] else none
  | o, .Call (.Name x _) [a, b] [] _ => if fnO2 o = some x ∧ glB sc x = true ∧ okE a = true ∧ okE b = true then some [a, b] else none
  | _, _ => none
section
variable {p : PC} {N : List Str} {sc : Scope} {top : Bool} {X : Cx} {C : Ctx} {L : Lk} {k : Nat} {t : Tab}
theorem lf_binO (h : XOk p N sc top X) {o : Op} {op : Operator} (e : binO o = some op) : Lf2 p X (binaryOp op) (opsem o) := by
  cases o <;> cases e
  · exact lf_add h.units
  · exact lf_sub
  · exact lf_mul
  · exact lf_fdiv
  · exact lf_mod
  · exact lf_pow
theorem lf_cmpO (h : XOk p N sc top X) {o : Op} {op : CmpOp} (e : cmpO o = some op) : Lf2 p X (compareOp op) (opsem o) := by
  cases o <;> cases e
  · exact lf_lt h.units
  · exact lf_le h.units
  · exact lf_gt h.units
  · exact lf_ge h.units
  · exact lf_eq h.units
  · exact lf_ne h.units
  · exact lf_is
  · exact lf_isn
  · exact lf_in h.units
  · exact lf_nin h.units
theorem lf_fnO1 (h : XOk p N sc top X) {o : Op} {x : Str} (e : fnO1 o = some x) : ∃ id, BiOk x id ∧ Lf1 p X (fun u => call id [u]) (opsem o) := by
  cases o <;> cases e
  · exact ⟨.builtin "len", ⟨by decide, by decide +kernel, rfl, by decide, by decide⟩, lf_len⟩
  · exact ⟨.builtin "all", ⟨by decide, by decide +kernel, rfl, by decide, by decide⟩, lf_all h.calm⟩
  · exact ⟨.builtin "any", ⟨by decide, by decide +kernel, rfl, by decide, by decide⟩, lf_any h.calm⟩
  · exact ⟨.builtin "sorted", ⟨by decide, by decide +kernel, rfl, by decide, by decide⟩, lf_sorted h.calm h.units⟩
  · exact ⟨.type "tuple", ⟨by decide, by decide +kernel, rfl, by decide, by decide⟩, lf_tuple⟩
  · exact ⟨.type "list", ⟨by decide, by decide +kernel, rfl, by decide, by decide⟩, lf_list⟩
  · exact ⟨.builtin "abs", ⟨by decide, by decide +kernel, rfl, by decide, by decide⟩, lf_abs⟩
  · exact ⟨.type "int", ⟨by decide, by decide +kernel, rfl, by decide, by decide⟩, lf_int⟩
  · exact ⟨.type "str", ⟨by decide, by decide +kernel, rfl, by decide, by decide⟩, lf_str⟩
  · exact ⟨.builtin "repr", ⟨by decide, by decide +kernel, rfl, by decide, by decide⟩, lf_repr h.guards h.units⟩
  · exact ⟨.type "bool", ⟨by decide, by decide +kernel, rfl, by decide, by decide⟩, lf_bool⟩
theorem lf_fnO2 (h : XOk p N sc top X) {o : Op} {x : Str} (e : fnO2 o = some x) : ∃ id, BiOk x id ∧ Lf2 p X (fun u w => call id [u, w]) (opsem o) := by
  cases o <;> cases e
  · exact ⟨.builtin "max", ⟨by decide, by decide +kernel, rfl, by decide, by decide⟩, lf_max2 h.calm⟩
  · exact ⟨.builtin "min", ⟨by decide, by decide +kernel, rfl, by decide, by decide⟩, lf_min2 h.calm⟩
  · exact ⟨.builtin "divmod", ⟨by decide, by decide +kernel, rfl, by decide, by decide⟩, lf_divmod⟩
theorem tyO_ok {t : Ty} {x : Str} (e : tyO t = some x) : x ∈ BN ∧ bootBuiltins x = some (.type (tyName t)) ∧ x ≠ "__name__" ∧ (x == ("__debug__" : Str)) = false := by
  cases t <;> cases e <;> exact ⟨by decide, by decide +kernel, by decide, by decide⟩
theorem op_ok (h : XOk p N sc top X) {o : Op} {e : Expr} {es : List Expr} {cs : CE} (sh : opSh sc o e = some es) (ss : SO p C X cs es) : SE p C X (.op o cs) e := by
  unfold opSh at sh
  split at sh
  · cases sh; exact se_rev ss
  · split at sh
    · rename_i g; cases sh; obtain ⟨rfl, rfl, g1, g2, g3⟩ := g; exact se_lrev h.calm (gl_of h g1) (h.blt _ (by decide)) (gl_of h g2) (h.blt _ (by decide)) g3 ss
    · cases sh
  · split at sh
    · rename_i g; cases sh; obtain ⟨rfl, rfl, g1, g2, g3⟩ := g; exact se_sset (N := N) (sc := sc) (top := top) h.calm h.units (gl_of h g1) (h.blt _ (by decide)) (gl_of h g2) (h.blt _ (by decide)) g3 ss
    · cases sh
  · split at sh
    · rename_i g; cases sh; obtain ⟨rfl, rfl, g1, g2, g3⟩ := g; exact se_lrng1 h g1 g2 g3 ss
    · cases sh
  · split at sh
    · rename_i g; cases sh; obtain ⟨rfl, rfl, g1, g2, g3⟩ := g; exact se_trng1 h g1 g2 g3 ss
    · cases sh
  · split at sh
    · rename_i g; cases sh; obtain ⟨rfl, rfl, g1, g2, g3, g4⟩ := g; exact se_lrng2 h g1 g2 g3 g4 ss
    · cases sh
  · split at sh
    · rename_i g; cases sh; obtain ⟨rfl, rfl, g1, g2, g3, g4⟩ := g; exact se_trng2 h g1 g2 g3 g4 ss
    · cases sh
  · split at sh
    · rename_i g; cases sh; exact se_bin (lf_binO h g) ss
    · cases sh
  · split at sh
    · rename_i g; cases sh; exact se_cmp (lf_cmpO h g.1) g.2 ss
    · cases sh
  · cases sh; exact se_un lf_neg ss
  · cases sh; exact se_slice2 ss
  · cases sh; exact se_sliceL ss
  · cases sh; exact se_sliceR ss
  · split at sh
    · rename_i g; cases sh; exact se_idx h g ss
    · cases sh
  · split at sh
    · rename_i g
      cases sh
      obtain ⟨rfl, g2, g3, g4, g5⟩ := g
      obtain ⟨t1, t2, t3, t4⟩ := tyO_ok g2
      exact se_isi h g3 g4 t1 t2 t3 t4 g5 ss
    · cases sh
  · split at sh
    · rename_i g
      cases sh
      obtain ⟨id, b, lf⟩ := lf_fnO1 h g.1
      exact se_fn1 h b g.2.1 g.2.2 lf ss
    · cases sh
  · split at sh
    · rename_i g
      cases sh
      obtain ⟨id, b, lf⟩ := lf_fnO2 h g.1
      exact se_fn2 h b g.2.1 g.2.2.1 g.2.2.2 lf ss
    · cases sh
  · cases sh
/-- a comparison, as a test -/
def cmpSh (o : Op) : Expr → Option (List Expr)
  | .Compare a [op] [b] _ => if cmpO o = some op ∧ okE b = true then some [a, b] else none
  | _ => none
theorem cmp_ok (h : XOk p N sc top X) {o : Op} {e : Expr} {es : List Expr} {cs : CE} (sh : cmpSh o e = some es) (ss : SO p C X cs es) : ST p C X (.tst (.op o cs)) e := by
  unfold cmpSh at sh
  split at sh
  · split at sh
    · rename_i g; cases sh; exact st_cmp (lf_cmpO h g.1) g.2 ss
    · cases sh
  · cases sh
/-! ### targets, iterables -/
def isTupE : Expr → Bool
  | .Tuple _ _ _ => true
  | _ => false
def tgNames : Expr → List Str
  | .Name x _ => [x]
  | .Tuple ts _ _ => ts.filterMap fun | .Name x _ => some x | _ => none
  | _ => []
def tgsB (N : List Str) (sc : Scope) (top : Bool) : List Nat → List Expr → Bool
  | [], [] => true
  | i :: r, .Name x _ :: es => locB N sc top i x && tgsB N sc top r es
  | _, _ => false
def tgB (N : List Str) (sc : Scope) (top : Bool) : List Nat → Expr → Bool
  | [i], .Name x _ => locB N sc top i x
  | tg, .Tuple ts _ _ => tgsB N sc top tg ts && decide (tg.length ≠ 1)
  | _, _ => false
theorem tgs_ok (h : XOk p N sc top X) : ∀ {tg : List Nat} {es : List Expr}, tgsB N sc top tg es = true → SGs p C X tg es ∧ es.all isName = true ∧ es.length = tg.length
  | [], [], _ => ⟨sgs_nil, rfl, rfl⟩
  | [], _ :: _, e => by cases e
  | _ :: _, [], e => by cases e
  | i :: r, x :: es, e => by
    cases x <;> try (cases e; done)
    rename_i nm pos
    obtain ⟨e1, e2⟩ := Bool.and_eq_true_iff.mp (show (locB N sc top i nm && tgsB N sc top r es) = true from e)
    obtain ⟨q1, q2, q3⟩ := tgs_ok h e2
    exact ⟨sgs_cons h e1 q1, by rw [List.all_cons, q2]; rfl, by rw [List.length_cons, List.length_cons, q3]⟩
theorem tg_ok (h : XOk p N sc top X) {tg : List Nat} {e : Expr} (b : tgB N sc top tg e = true) : SG p C X tg e := by
  unfold tgB at b
  split at b
  · exact sg_name h b
  · obtain ⟨b1, b2⟩ := Bool.and_eq_true_iff.mp b
    obtain ⟨q1, q2, q3⟩ := tgs_ok (C := C) h b1
    exact sg_tup h q2 q3 (of_decide_eq_true b2) q1
  · cases b
def itSh (sc : Scope) (tge : Expr) : ItK → Expr → Option (List Expr)
  | .seq, e => some [e]
  | .range1, .Call (.Name x _) [a] [] _ => if x = "range" ∧ glB sc x = true ∧ okE a = true then some [a] else none
  | .range2, .Call (.Name x _) [a, b] [] _ => if x = "range" ∧ glB sc x = true ∧ okE a = true ∧ okE b = true then some [a, b] else none
  | .zip2, .Call (.Name x _) [a, b] [] _ => if x = "zip" ∧ glB sc x = true ∧ okE a = true ∧ okE b = true ∧ isTupE tge = true then some [a, b] else none
  | _, _ => none
theorem it_ok (h : XOk p N sc top X) {tge ie : Expr} {k : ItK} {es : List Expr} {c : CE} (sh : itSh sc tge k ie = some es) (ss : SV p C X c es) : SI p C X k c tge ie := by
  unfold itSh at sh
  split at sh
  · cases sh; exact si_seq ss
  · split at sh
    · rename_i g
      obtain ⟨rfl, g2, g3⟩ := g
      cases sh; exact si_rng1 h g2 g3 ss
    · cases sh
  · split at sh
    · rename_i g
      obtain ⟨rfl, g2, g3, g4⟩ := g
      cases sh; exact si_rng2 h g2 g3 g4 ss
    · cases sh
  · split at sh
    · rename_i g
      obtain ⟨rfl, g2, g3, g4, g5⟩ := g
      cases sh
      cases tge <;> try (cases g5; done)
      exact si_zip h g2 g3 g4 ss
    · cases sh
  · cases sh
theorem tab_blk (h : TabOk t p L k X C) {scope : Scope} : Blk X scope fun Y => TabOk t p L k Y C := fun s H Ca cl fp =>
  ⟨h.gn, fun f x e => let ⟨a, b, c, d⟩ := h.fn f x e; ⟨⟨a.fn, a.room, a.st⟩, b, c, d⟩, fun c f m e => let ⟨a, b⟩ := h.me c f m e; ⟨⟨a.fn, a.room, a.st⟩, b⟩, fun c f x e => let ⟨a, b, d, g⟩ := h.mkc c f x e; ⟨⟨a.fn, a.room, a.st⟩, b, d, g⟩, h.cl, h.fl, h.kw⟩
end
end Mn
/-! Mn, part U: the check of expressions. -/
namespace Mn
open PySem L2 PySem.Spec RZ
open PyProof.Rows hiding St

def plT (t : Tab) (N : List Str) (sc : Scope) : Pl → Expr → Bool
  | .v i, .Name x _ => nameB N sc i x
  | .f i n, .Attribute (.Name x _) f _ => t.has && nameB N sc i x && decide (t.fl n = some f)
  | _, _ => false
def isBO : Expr → Bool
  | .BoolOp _ _ _ => true
  | _ => false
def atrB : Expr → Bool
  | .Name _ _ => true
  | .Call (.Name _ _) (_ :: _) _ _ => true
  | _ => false
def CE.isNil : CE → Bool
  | .nil => true
  | _ => false
mutual
def ckE (t : Tab) (N : List Str) (sc : Scope) (top : Bool) : CE → Expr → Bool
  | .var i, .Name x _ => nameB N sc i x
  | .mv i, .Name x _ => nameB N sc i x
  | .bor i, .Name x _ => nameB N sc i x
  | .fld i n, e => plT t N sc (.f i n) e
  | .cst d, .Constant c _ _ => match d, c with
    | .none, .none => true
    | .bool a, .bool b => a == b
    | .int a, .int b => decide (a = b)
    | .str a, .str b => decide (a = b)
    | _, _ => false
  | .glob k, .Name x _ => decide (x = t.gn k) && glB sc x
  | .tup cs, .Tuple es _ _ => es.all okE && decide (es.length ≤ 1000) && ckV t N sc top cs es
  | .lst cs, .List es _ => es.all okE && decide (es.length ≤ 1000) && ckV t N sc top cs es
  | .edict, .Dict [] [] _ => true
  | .dict1 k v, .Dict [some ek] [ev] _ => ckE t N sc top k ek && ckE t N sc top v ev
  | .op o cs, e => match opSh sc o e with
    | some es => ckO t N sc top cs es
    | none => false
  | .and a b, .BoolOp .And (ea :: eb :: r) pos => ckE t N sc top a ea && (match r with
    | [] => ckE t N sc top b eb
    | _ => ckE t N sc top b (.BoolOp .And (eb :: r) pos))
  | .or a b, .BoolOp .Or (ea :: eb :: r) pos => ckE t N sc top a ea && (match r with
    | [] => ckE t N sc top b eb
    | _ => ckE t N sc top b (.BoolOp .Or (eb :: r) pos))
  | .not a, .UnaryOp .Not ea _ => ckE t N sc top a ea
  | .ite c a b, .IfExp ec ea eb _ => ckT t N sc top c ec && ckE t N sc top a ea && ckE t N sc top b eb
  | .chain o q a b c, .Compare ea [op, op'] [eb, ec] _ => decide (cmpO o = some op) && decide (cmpO q = some op') && okE ec && ckE t N sc top a ea && ckE t N sc top b eb && ckE t N sc top c ec
  | .comp tg k it cond elt, .ListComp ee [⟨tge, ie, ifs, 0⟩] scope _ => okE ie && blkC N sc scope ((tgNames tge).zip tg) && decide (((tgNames tge).zip tg).map (·.2) = tg) && tgB N (relS scope sc) false tg tge &&
      (match itSh sc tge k ie with
        | some es => ckV t N sc top it es
        | none => false) &&
      (match ifs with
        | [] => cond.isNil
        | [c] => ckT t N (relS scope sc) false cond c
        | _ => false) && ckE t N (relS scope sc) false elt ee
  | .call f none cs, .Call (.Name x _) es [] _ => decide (t.fn f = some x) && glB sc x && es.all okE && ckO t N sc top cs es
  | .call f (some pm) cs, .Call (.Name x _) [] kws _ => decide (t.fn f = some x) && glB sc x && (kws.all fun q => q.arg.isSome) && t.kw f (kws.filterMap fun q => q.arg) pm && ckO t N sc top cs (kws.map fun q => q.value)
  | .meth c f (.cons e0 as), .Call (.Attribute o m apos) es [] pos => t.has && decide (t.me c f = some m) && atrB o && es.all okE && decide (es.length < 20) && (apos.endLine == pos.line) &&
      (match e0.isBor with
        | some i => match o with
          | .Name x _ => nameB N sc i x
          | _ => false
        | none => e0.isFb.isNone && ckE t N sc top e0 o) && ckO t N sc top as es
  | .make c f cs, .Call (.Name x _) es [] _ => decide (t.mkc c f = some x) && glB sc x && es.all okE && ckO t N sc top cs es
  | .mut m i cs, .Call (.Attribute (.Name x _) nm apos) es [] pos => nameB N sc i x && (apos.endLine == pos.line) && es.all okE && (match m, es with
    | .append, [_] => decide (nm = "append") && ckV t N sc top cs es
    | .extend, [_] => decide (nm = "extend") && ckO t N sc top cs es
    | .pop1, [_] => decide (nm = "pop") && ckV t N sc top cs es
    | .pop0, [] => decide (nm = "pop") && cs.isNil
    | _, _ => false)
  | _, _ => false
def ckT (t : Tab) (N : List Str) (sc : Scope) (top : Bool) : CE → Expr → Bool
  | .and a b, .BoolOp .And (ea :: eb :: r) pos => ckT t N sc top a ea && (match r with
    | [] => ckT t N sc top b eb
    | _ => ckT t N sc top b (.BoolOp .And (eb :: r) pos))
  | .or a b, .BoolOp .Or (ea :: eb :: r) pos => ckT t N sc top a ea && (match r with
    | [] => ckT t N sc top b eb
    | _ => ckT t N sc top b (.BoolOp .Or (eb :: r) pos))
  | .not a, .UnaryOp .Not ea _ => ckT t N sc top a ea
  | .tst c, e => ckC t N sc top c e || (plainT e && ckE t N sc top c e)
  | _, _ => false
def ckC (t : Tab) (N : List Str) (sc : Scope) (top : Bool) : CE → Expr → Bool
  | .op o cs, e => match cmpSh o e with
    | some es => ckO t N sc top cs es
    | none => false
  | .chain o q a b c, .Compare ea [op, op'] [eb, ec] _ => decide (cmpO o = some op) && decide (cmpO q = some op') && okE ec && ckE t N sc top a ea && ckE t N sc top b eb && ckE t N sc top c ec
  | _, _ => false
def ckV (t : Tab) (N : List Str) (sc : Scope) (top : Bool) : CE → List Expr → Bool
  | .nil, [] => true
  | .cons c cs, e :: es => ckE t N sc top c e && ckV t N sc top cs es
  | _, _ => false
def ckO (t : Tab) (N : List Str) (sc : Scope) (top : Bool) : CE → List Expr → Bool
  | .nil, [] => true
  | .cons c cs, e :: es => (match c.isBor with
    | some i => match e with
      | .Name x _ => nameB N sc i x
      | _ => false
    | none => match c.isFb with
      | some (i, n) => plT t N sc (.f i n) e
      | none => ckE t N sc top c e) && ckO t N sc top cs es
  | _, _ => false
termination_by structural c => c
end
end Mn
/-! Mn, part V: what is checked is so. -/
namespace Mn
open PySem L2 PySem.Spec RZ
open PyProof.Rows hiding St
theorem named_kws : ∀ {kws : List Keyword}, (kws.all fun q => q.arg.isSome) = true → kws.map (·.arg) = (kws.filterMap fun q => q.arg).map some
  | [], _ => rfl
  | q :: r, h => by
    simp only [List.all_cons, Bool.and_eq_true] at h
    obtain ⟨a, ha⟩ := Option.isSome_iff_exists.mp h.1
    have ih := named_kws h.2
    rw [List.map_cons, List.filterMap_cons, ha, ih]
    rfl

structure Good (t : Tab) (p : PC) (L : Lk) (k : Nat) (C : Ctx) (c : CE) : Prop where
  ge : ∀ N sc top X, XOk p N sc top X → TabOk t p L k X C → ∀ ex, ckE t N sc top c ex = true → SE p C X c ex
  gt : ∀ N sc top X, XOk p N sc top X → TabOk t p L k X C → ∀ ex, ckT t N sc top c ex = true → ST p C X c ex ∧ (isBO ex = true → SW p C X c ex)
  gc : ∀ N sc top X, XOk p N sc top X → TabOk t p L k X C → ∀ ex, ckC t N sc top c ex = true → ST p C X (.tst c) ex ∧ isBO ex = false
  gv : ∀ N sc top X, XOk p N sc top X → TabOk t p L k X C → ∀ es, ckV t N sc top c es = true → SV p C X c es
  go : ∀ N sc top X, XOk p N sc top X → TabOk t p L k X C → ∀ es, ckO t N sc top c es = true → SO p C X c es
section
variable {t : Tab} {p : PC} {N : List Str} {sc : Scope} {top : Bool} {X : Cx} {C : Ctx} {L : Lk} {k : Nat}
theorem pl_ok' (th : TabOk t p L k X C) {pl : Pl} {e : Expr} (b : plT t N sc pl e = true) : plB p N sc pl e = true := by
  cases pl with
  | v i =>
    cases e <;> first | exact b | exact (Bool.false_ne_true b).elim
  | f i n =>
    cases e <;> try exact (Bool.false_ne_true b).elim
    rename_i o f pos
    cases o <;> try exact (Bool.false_ne_true b).elim
    rename_i x pos'
    obtain ⟨b1, b2⟩ := Bool.and_eq_true_iff.mp (show (t.has && nameB N sc i x && decide (t.fl n = some f)) = true from b)
    obtain ⟨b0, b1⟩ := Bool.and_eq_true_iff.mp b1
    have := (th.fl n f (of_decide_eq_true b2)).1
    show (nameB N sc i x && decide (f = p.fnm n)) = true
    rw [b1, this]; simp
theorem has_of {i n : Nat} {e : Expr} (b : plT t N sc (.f i n) e = true) : t.has = true := by
  cases e <;> try exact (Bool.false_ne_true b).elim
  rename_i o f pos
  cases o <;> try exact (Bool.false_ne_true b).elim
  rename_i x pos'
  obtain ⟨b1, _⟩ := Bool.and_eq_true_iff.mp (show (t.has && nameB N sc i x && decide (t.fl n = some f)) = true from b)
  exact (Bool.and_eq_true_iff.mp b1).1
theorem and4 {a b : Bool} (h : (a && b) = true) : a = true ∧ b = true := Bool.and_eq_true_iff.mp h
/-- one operand ahead of others -/
theorem go_cons (h : XOk p N sc top X) (th : TabOk t p L k X C) {c cs : CE} {e : Expr} {es : List Expr} (ge : Good t p L k C c) (ss : SO p C X cs es) (hc : (match c.isBor with
    | some i => match e with
      | .Name x _ => nameB N sc i x
      | _ => false
    | none => match c.isFb with
      | some (i, n) => plT t N sc (.f i n) e
      | none => ckE t N sc top c e) = true) : SO p C X (.cons c cs) (e :: es) := by
  cases hb : c.isBor with
  | some i =>
    rw [hb] at hc
    have ec : c = .bor i := by cases c <;> first | (cases hb; rfl) | (cases hb; done)
    subst ec
    cases e <;> try exact (Bool.false_ne_true hc).elim
    exact so_bor h hc ss
  | none =>
    rw [hb] at hc
    cases hf : c.isFb with
    | some q =>
      obtain ⟨i, n⟩ := q
      rw [hf] at hc
      have ec : c = .fbor i n := by cases c <;> first | (cases hf; rfl) | (cases hf; done)
      subst ec
      exact so_fbor h (th.cl (has_of hc)).1 (pl_ok' th hc) ss
    | none =>
      rw [hf] at hc
      exact so_cons hb hf (ge.ge N sc top X h th e hc) ss
theorem bot {P : Prop} (h : (false : Bool) = true) : P := (Bool.false_ne_true h).elim
theorem atr_ok {o : Expr} {m : Str} {env : Env} (h : atrB o = true) : attributeBase o m env (eval o env) = eval o env := by
  unfold atrB at h
  split at h
  · rfl
  · rfl
  · cases h
theorem isb_ok {c : CE} {i : Nat} (h : c.isBor = some i) : c = .bor i := by
  cases c <;> first | (cases h; rfl) | (cases h; done)
theorem good : (c : CE) → Good t p L k C c
  | .var i => ⟨fun N sc top X h th ex hc => by cases ex <;> first | exact se_var h hc | exact bot hc, fun _ _ _ _ _ _ _ hc => bot hc, fun _ _ _ _ _ _ _ hc => bot hc, fun _ _ _ _ _ _ _ hc => bot hc, fun _ _ _ _ _ _ _ hc => bot hc⟩
  | .mv i => ⟨fun N sc top X h th ex hc => by cases ex <;> first | exact se_mv h hc | exact bot hc, fun _ _ _ _ _ _ _ hc => bot hc, fun _ _ _ _ _ _ _ hc => bot hc, fun _ _ _ _ _ _ _ hc => bot hc, fun _ _ _ _ _ _ _ hc => bot hc⟩
  | .bor i => ⟨fun N sc top X h th ex hc => by cases ex <;> first | exact se_bor h hc | exact bot hc, fun _ _ _ _ _ _ _ hc => bot hc, fun _ _ _ _ _ _ _ hc => bot hc, fun _ _ _ _ _ _ _ hc => bot hc, fun _ _ _ _ _ _ _ hc => bot hc⟩
  | .fbor i n => ⟨fun N sc top X h th ex hc => bot hc, fun _ _ _ _ _ _ _ hc => bot hc, fun _ _ _ _ _ _ _ hc => bot hc, fun _ _ _ _ _ _ _ hc => bot hc, fun _ _ _ _ _ _ _ hc => bot hc⟩
  | .fld i n => ⟨fun N sc top X h th ex hc => se_fld h (th.cl (has_of hc)).1 (pl_ok' th hc), fun _ _ _ _ _ _ _ hc => bot hc, fun _ _ _ _ _ _ _ hc => bot hc, fun _ _ _ _ _ _ _ hc => bot hc, fun _ _ _ _ _ _ _ hc => bot hc⟩
  | .cst d => ⟨fun N sc top X h th ex hc => by
      cases ex <;> try exact bot hc
      rename_i c j pos
      refine se_cst ?_
      cases d <;> cases c <;> first
        | exact bot hc
        | rfl
        | (have := (show (_ == _) = true from hc); simp at this; subst this; rfl)
        | (have := of_decide_eq_true (show decide (_ = _) = true from hc); subst this; rfl), fun _ _ _ _ _ _ _ hc => bot hc, fun _ _ _ _ _ _ _ hc => bot hc, fun _ _ _ _ _ _ _ hc => bot hc, fun _ _ _ _ _ _ _ hc => bot hc⟩
  | .glob i => ⟨fun N sc top X h th ex hc => by
      cases ex <;> try exact bot hc
      obtain ⟨h1, h2⟩ := and4 hc
      have e := of_decide_eq_true h1
      subst e
      exact se_glob h th.gn h2, fun _ _ _ _ _ _ _ hc => bot hc, fun _ _ _ _ _ _ _ hc => bot hc, fun _ _ _ _ _ _ _ hc => bot hc, fun _ _ _ _ _ _ _ hc => bot hc⟩
  | .tup cs => ⟨fun N sc top X h th ex hc => by
      cases ex <;> try exact bot hc
      obtain ⟨h1, h2⟩ := and4 hc
      obtain ⟨h0, h1⟩ := and4 h1
      exact se_tup h0 (of_decide_eq_true h1) ((good cs).gv N sc top X h th _ h2), fun _ _ _ _ _ _ _ hc => bot hc, fun _ _ _ _ _ _ _ hc => bot hc, fun _ _ _ _ _ _ _ hc => bot hc, fun _ _ _ _ _ _ _ hc => bot hc⟩
  | .lst cs => ⟨fun N sc top X h th ex hc => by
      cases ex <;> try exact bot hc
      obtain ⟨h1, h2⟩ := and4 hc
      obtain ⟨h0, h1⟩ := and4 h1
      exact se_lst h0 (of_decide_eq_true h1) ((good cs).gv N sc top X h th _ h2), fun _ _ _ _ _ _ _ hc => bot hc, fun _ _ _ _ _ _ _ hc => bot hc, fun _ _ _ _ _ _ _ hc => bot hc, fun _ _ _ _ _ _ _ hc => bot hc⟩
  | .edict => ⟨fun N sc top X h th ex hc => by
      cases ex <;> try exact bot hc
      rename_i ks vs pos
      cases ks <;> cases vs <;> first | exact bot hc | exact se_edict, fun _ _ _ _ _ _ _ hc => bot hc, fun _ _ _ _ _ _ _ hc => bot hc, fun _ _ _ _ _ _ _ hc => bot hc, fun _ _ _ _ _ _ _ hc => bot hc⟩
  | .op o cs => ⟨fun N sc top X h th ex hc => by
      have hc' : (match opSh sc o ex with
        | some es => ckO t N sc top cs es
        | none => false) = true := hc
      split at hc'
      · rename_i es he
        exact op_ok h he ((good cs).go N sc top X h th es hc')
      · exact bot hc', fun _ _ _ _ _ _ _ hc => bot hc, fun N sc top X h th ex hc => by
      have hc' : (match cmpSh o ex with
        | some es => ckO t N sc top cs es
        | none => false) = true := hc
      split at hc'
      · rename_i es he
        refine ⟨cmp_ok h he ((good cs).go N sc top X h th es hc'), ?_⟩
        cases ex <;> first | rfl | (cases he; done)
      · exact bot hc', fun _ _ _ _ _ _ _ hc => bot hc, fun _ _ _ _ _ _ _ hc => bot hc⟩
  | .and a b => ⟨fun N sc top X h th ex hc => by
      cases ex <;> try exact bot hc
      rename_i op vs pos
      cases op <;> try exact bot hc
      cases vs with
      | nil => exact bot hc
      | cons ea r =>
        cases r with
        | nil => exact bot hc
        | cons eb r =>
          obtain ⟨h1, h2⟩ := and4 (show (ckE t N sc top a ea && (match (generalizing := false) r with
            | [] => ckE t N sc top b eb
            | _ => ckE t N sc top b (.BoolOp .And (eb :: r) pos))) = true from hc)
          refine se_and ((good a).ge N sc top X h th _ h1) ?_
          cases r with
          | nil => exact se_one ((good b).ge N sc top X h th _ h2)
          | cons _ _ => exact (good b).ge N sc top X h th _ h2, fun N sc top X h th ex hc => by
      cases ex <;> try exact bot hc
      rename_i op vs pos
      cases op <;> try exact bot hc
      cases vs with
      | nil => exact bot hc
      | cons ea r =>
        cases r with
        | nil => exact bot hc
        | cons eb r =>
          obtain ⟨h1, h2⟩ := and4 (show (ckT t N sc top a ea && (match (generalizing := false) r with
            | [] => ckT t N sc top b eb
            | _ => ckT t N sc top b (.BoolOp .And (eb :: r) pos))) = true from hc)
          have sw : SW p C X (.and a b) (.BoolOp .And (ea :: eb :: r) pos) := by
            refine sw_and ((good a).gt N sc top X h th _ h1).1 ?_
            cases r with
            | nil => exact sw_and1 ((good b).gt N sc top X h th _ h2).1
            | cons _ _ => exact ((good b).gt N sc top X h th _ h2).2 rfl
          exact ⟨st_w sw, fun _ => sw⟩, fun _ _ _ _ _ _ _ hc => bot hc, fun _ _ _ _ _ _ _ hc => bot hc, fun _ _ _ _ _ _ _ hc => bot hc⟩
  | .or a b => ⟨fun N sc top X h th ex hc => by
      cases ex <;> try exact bot hc
      rename_i op vs pos
      cases op <;> try exact bot hc
      cases vs with
      | nil => exact bot hc
      | cons ea r =>
        cases r with
        | nil => exact bot hc
        | cons eb r =>
          obtain ⟨h1, h2⟩ := and4 (show (ckE t N sc top a ea && (match (generalizing := false) r with
            | [] => ckE t N sc top b eb
            | _ => ckE t N sc top b (.BoolOp .Or (eb :: r) pos))) = true from hc)
          refine se_or ((good a).ge N sc top X h th _ h1) ?_
          cases r with
          | nil => exact se_one ((good b).ge N sc top X h th _ h2)
          | cons _ _ => exact (good b).ge N sc top X h th _ h2, fun N sc top X h th ex hc => by
      cases ex <;> try exact bot hc
      rename_i op vs pos
      cases op <;> try exact bot hc
      cases vs with
      | nil => exact bot hc
      | cons ea r =>
        cases r with
        | nil => exact bot hc
        | cons eb r =>
          obtain ⟨h1, h2⟩ := and4 (show (ckT t N sc top a ea && (match (generalizing := false) r with
            | [] => ckT t N sc top b eb
            | _ => ckT t N sc top b (.BoolOp .Or (eb :: r) pos))) = true from hc)
          have sw : SW p C X (.or a b) (.BoolOp .Or (ea :: eb :: r) pos) := by
            refine sw_or ((good a).gt N sc top X h th _ h1).1 ?_
            cases r with
            | nil => exact sw_or1 ((good b).gt N sc top X h th _ h2).1
            | cons _ _ => exact ((good b).gt N sc top X h th _ h2).2 rfl
          exact ⟨st_w sw, fun _ => sw⟩, fun _ _ _ _ _ _ _ hc => bot hc, fun _ _ _ _ _ _ _ hc => bot hc, fun _ _ _ _ _ _ _ hc => bot hc⟩
  | .not a => ⟨fun N sc top X h th ex hc => by
      cases ex <;> try exact bot hc
      rename_i op ea pos
      cases op <;> try exact bot hc
      exact se_not ((good a).ge N sc top X h th _ hc), fun N sc top X h th ex hc => by
      cases ex <;> try exact bot hc
      rename_i op ea pos
      cases op <;> try exact bot hc
      exact ⟨st_not ((good a).gt N sc top X h th _ hc).1, fun z => bot z⟩, fun _ _ _ _ _ _ _ hc => bot hc, fun _ _ _ _ _ _ _ hc => bot hc, fun _ _ _ _ _ _ _ hc => bot hc⟩
  | .ite c a b => ⟨fun N sc top X h th ex hc => by
      cases ex <;> try exact bot hc
      obtain ⟨h1, h3⟩ := and4 hc
      obtain ⟨h1, h2⟩ := and4 h1
      exact se_ite ((good c).gt N sc top X h th _ h1).1 ((good a).ge N sc top X h th _ h2) ((good b).ge N sc top X h th _ h3), fun _ _ _ _ _ _ _ hc => bot hc, fun _ _ _ _ _ _ _ hc => bot hc, fun _ _ _ _ _ _ _ hc => bot hc, fun _ _ _ _ _ _ _ hc => bot hc⟩
  | .chain o q a b c => ⟨fun N sc top X h th ex hc => by
      cases ex <;> try exact bot hc
      rename_i ea ops bs pos
      obtain ⟨op, op', eb, ec, rfl, rfl⟩ : ∃ op op' eb ec, ops = [op, op'] ∧ bs = [eb, ec] := by
        match ops, bs, hc with
        | [op, op'], [eb, ec], _ => exact ⟨_, _, _, _, rfl, rfl⟩
      obtain ⟨h1, h6⟩ := and4 (show (decide (cmpO o = some op) && decide (cmpO q = some op') && okE ec && ckE t N sc top a ea && ckE t N sc top b eb && ckE t N sc top c ec) = true from hc)
      obtain ⟨h1, h5⟩ := and4 h1
      obtain ⟨h1, h4⟩ := and4 h1
      obtain ⟨h1, h3⟩ := and4 h1
      obtain ⟨h1, h2⟩ := and4 h1
      exact se_chain (lf_cmpO h (of_decide_eq_true h1)) (lf_cmpO h (of_decide_eq_true h2)) h3 ((good a).ge N sc top X h th _ h4) ((good b).ge N sc top X h th _ h5) ((good c).ge N sc top X h th _ h6), fun _ _ _ _ _ _ _ hc => bot hc, fun N sc top X h th ex hc => by
      cases ex <;> try exact bot hc
      rename_i ea ops bs pos
      obtain ⟨op, op', eb, ec, rfl, rfl⟩ : ∃ op op' eb ec, ops = [op, op'] ∧ bs = [eb, ec] := by
        match ops, bs, hc with
        | [op, op'], [eb, ec], _ => exact ⟨_, _, _, _, rfl, rfl⟩
      obtain ⟨h1, h6⟩ := and4 (show (decide (cmpO o = some op) && decide (cmpO q = some op') && okE ec && ckE t N sc top a ea && ckE t N sc top b eb && ckE t N sc top c ec) = true from hc)
      obtain ⟨h1, h5⟩ := and4 h1
      obtain ⟨h1, h4⟩ := and4 h1
      obtain ⟨h1, h3⟩ := and4 h1
      obtain ⟨h1, h2⟩ := and4 h1
      exact ⟨st_chain (lf_cmpO h (of_decide_eq_true h1)) (lf_cmpO h (of_decide_eq_true h2)) h3 ((good a).ge N sc top X h th _ h4) ((good b).ge N sc top X h th _ h5) ((good c).ge N sc top X h th _ h6), rfl⟩, fun _ _ _ _ _ _ _ hc => bot hc, fun _ _ _ _ _ _ _ hc => bot hc⟩
  | .comp tg kk it cond elt => ⟨fun N sc top X h th ex hc => by
      cases ex <;> try exact bot hc
      rename_i ee gs scope pos
      match gs, hc with
      | [⟨tge, ie, ifs, 0⟩], hc =>
        obtain ⟨h1, h7⟩ := and4 (show (okE ie && blkC N sc scope ((tgNames tge).zip tg) && decide (((tgNames tge).zip tg).map (·.2) = tg) && tgB N (relS scope sc) false tg tge &&
          (match (generalizing := false) itSh sc tge kk ie with
            | some es => ckV t N sc top it es
            | none => false) &&
          (match (generalizing := false) ifs with
            | [] => cond.isNil
            | [c] => ckT t N (relS scope sc) false cond c
            | _ => false) && ckE t N (relS scope sc) false elt ee) = true from hc)
        obtain ⟨h1, h6⟩ := and4 h1
        obtain ⟨h1, h5⟩ := and4 h1
        obtain ⟨h1, h4⟩ := and4 h1
        obtain ⟨h1, h3⟩ := and4 h1
        obtain ⟨h1, h2⟩ := and4 h1
        have hs : SI p C X kk it tge ie := by
          split at h5
          · rename_i es he
            exact it_ok h he ((good it).gv N sc top X h th _ h5)
          · exact bot h5
        have hbx := xok_blk (scope := scope) h
        have hbt := tab_blk (scope := scope) th
        have hts : Blk X scope fun Y => STs p C Y cond ifs := fun s H Ca cl fp => by
          split at h6
          · have : cond = .nil := by cases cond <;> first | rfl | exact bot h6
            subst this
            exact sts_nil
          · exact sts_one ((good cond).gt N _ _ _ (hbx s H Ca cl fp) (hbt s H Ca cl fp) _ h6).1
          · exact bot h6
        exact se_comp h (blkOk_by h2) (of_decide_eq_true h3) h1 (sl_comp h hs (fun s H Ca cl fp => tg_ok (hbx s H Ca cl fp) h4) hts fun s H Ca cl fp => (good elt).ge N _ _ _ (hbx s H Ca cl fp) (hbt s H Ca cl fp) _ h7), fun _ _ _ _ _ _ _ hc => bot hc, fun _ _ _ _ _ _ _ hc => bot hc, fun _ _ _ _ _ _ _ hc => bot hc, fun _ _ _ _ _ _ _ hc => bot hc⟩
  | .dcomp _ _ _ _ _ _ => ⟨fun _ _ _ _ _ _ _ hc => bot hc, fun _ _ _ _ _ _ _ hc => bot hc, fun _ _ _ _ _ _ _ hc => bot hc, fun _ _ _ _ _ _ _ hc => bot hc, fun _ _ _ _ _ _ _ hc => bot hc⟩
  | .call f ps cs => ⟨fun N sc top X h th ex hc => by
      cases ps with
      | some pm =>
        cases ex <;> try exact bot hc
        rename_i fe es kws pos
        cases fe <;> try exact bot hc
        rename_i x px
        cases es with
        | cons _ _ => exact bot hc
        | nil =>
          obtain ⟨h1, h5⟩ := and4 (show (decide (t.fn f = some x) && glB sc x && (kws.all fun q => q.arg.isSome) && t.kw f (kws.filterMap fun q => q.arg) pm && ckO t N sc top cs (kws.map fun q => q.value)) = true from hc)
          obtain ⟨h1, h4⟩ := and4 h1
          obtain ⟨h1, h3⟩ := and4 h1
          obtain ⟨h1, h2⟩ := and4 h1
          obtain ⟨co, e, hm, nd⟩ := th.fn f x (of_decide_eq_true h1)
          subst e
          obtain ⟨kb, hpl, hpm⟩ := th.kw _ _ _ h4
          have hn := named_kws h3
          have hlen : kws.length = (kws.filterMap fun q => q.arg).length := by simpa using congrArg List.length hn
          exact se_callk h co hm h2 nd kb hn hpl (by rw [hlen]; exact hpm) ((good cs).go N sc top X h th _ h5)
      | none =>
        cases ex <;> try exact bot hc
        rename_i fe es kws pos
        cases fe <;> try exact bot hc
        rename_i x px
        cases kws with
        | cons _ _ => exact bot hc
        | nil =>
          obtain ⟨h1, h4⟩ := and4 (show (decide (t.fn f = some x) && glB sc x && es.all okE && ckO t N sc top cs es) = true from hc)
          obtain ⟨h1, h3⟩ := and4 h1
          obtain ⟨h1, h2⟩ := and4 h1
          obtain ⟨co, e, hm, nd⟩ := th.fn f x (of_decide_eq_true h1)
          subst e
          exact se_call h co hm h2 nd h3 ((good cs).go N sc top X h th es h4), fun _ _ _ _ _ _ _ hc => bot hc, fun _ _ _ _ _ _ _ hc => bot hc, fun _ _ _ _ _ _ _ hc => bot hc, fun _ _ _ _ _ _ _ hc => bot hc⟩
  | .make c f cs => ⟨fun N sc top X h th ex hc => by
      cases ex <;> try exact bot hc
      rename_i fe es kws pos
      cases fe <;> try exact bot hc
      rename_i x px
      cases kws with
      | cons _ _ => exact bot hc
      | nil =>
        obtain ⟨h1, h4⟩ := and4 (show (decide (t.mkc c f = some x) && glB sc x && es.all okE && ckO t N sc top cs es) = true from hc)
        obtain ⟨h1, h3⟩ := and4 h1
        obtain ⟨h1, h2⟩ := and4 h1
        obtain ⟨co, mk, hm, nd⟩ := th.mkc c f x (of_decide_eq_true h1)
        exact se_make h co mk hm h2 nd h3 ((good cs).go N sc top X h th es h4), fun _ _ _ _ _ _ _ hc => bot hc, fun _ _ _ _ _ _ _ hc => bot hc, fun _ _ _ _ _ _ _ hc => bot hc, fun _ _ _ _ _ _ _ hc => bot hc⟩
  | .meth c f (.cons e0 as) => ⟨fun N sc top X h th ex hc => by
      cases ex <;> try exact bot hc
      rename_i fe es kws pos
      cases fe <;> try exact bot hc
      rename_i o m apos
      cases kws with
      | cons _ _ => exact bot hc
      | nil =>
        obtain ⟨h1, h8⟩ := and4 (show (t.has && decide (t.me c f = some m) && atrB o && es.all okE && decide (es.length < 20) && (apos.endLine == pos.line) &&
          (match (generalizing := false) e0.isBor with
            | some i => match (generalizing := false) o with
              | .Name x _ => nameB N sc i x
              | _ => false
            | none => e0.isFb.isNone && ckE t N sc top e0 o) && ckO t N sc top as es) = true from hc)
        obtain ⟨h1, h7⟩ := and4 h1
        obtain ⟨h1, h6⟩ := and4 h1
        obtain ⟨h1, h5⟩ := and4 h1
        obtain ⟨h1, h4⟩ := and4 h1
        obtain ⟨h1, h3⟩ := and4 h1
        obtain ⟨h1, h2⟩ := and4 h1
        obtain ⟨co, me⟩ := th.me c f m (of_decide_eq_true h2)
        have hb := atr_ok (m := m) (env := X.env) h3
        have so := (good as).go N sc top X h th es h8
        refine se_meth h (th.cl h1).1 co me hb h4 (of_decide_eq_true h5) h6 ?_
        cases hbr : e0.isBor with
        | some i =>
          rw [hbr] at h7
          have ec := isb_ok hbr
          subst ec
          match o, h7 with
          | .Name x px, h7 => exact sr_bor h h7 me.no so
        | none =>
          rw [hbr] at h7
          obtain ⟨h9, h10⟩ := and4 h7
          exact sr_gen hbr (Option.isNone_iff_eq_none.mp h9) me.no ((good e0).ge N sc top X h th o h10) so, fun _ _ _ _ _ _ _ hc => bot hc, fun _ _ _ _ _ _ _ hc => bot hc, fun _ _ _ _ _ _ _ hc => bot hc, fun _ _ _ _ _ _ _ hc => bot hc⟩
  | .mut m i cs => ⟨fun N sc top X h th ex hc => by
      cases ex <;> try exact bot hc
      rename_i fe es kws pos
      cases fe <;> try exact bot hc
      rename_i o nm apos
      cases o <;> try exact bot hc
      rename_i x px
      cases kws with
      | cons _ _ => exact bot hc
      | nil =>
        obtain ⟨h123, h4⟩ := and4 (show (nameB N sc i x && (apos.endLine == pos.line) && es.all okE && (match (generalizing := false) m, es with
          | .append, [_] => decide (nm = "append") && ckV t N sc top cs es
          | .extend, [_] => decide (nm = "extend") && ckO t N sc top cs es
          | .pop1, [_] => decide (nm = "pop") && ckV t N sc top cs es
          | .pop0, [] => decide (nm = "pop") && cs.isNil
          | _, _ => false)) = true from hc)
        obtain ⟨h12, h3⟩ := and4 h123
        obtain ⟨h1, h2⟩ := and4 h12
        clear h123 h12
        split at h4
        · obtain ⟨g1, g2⟩ := and4 h4
          have e := of_decide_eq_true g1
          subst e
          rw [List.all_cons] at h3
          exact se_append h h1 (and4 h3).1 h2 ((good cs).gv N sc top X h th _ g2)
        · obtain ⟨g1, g2⟩ := and4 h4
          have e := of_decide_eq_true g1
          subst e
          rw [List.all_cons] at h3
          exact se_extend h h1 (and4 h3).1 h2 ((good cs).go N sc top X h th _ g2)
        · obtain ⟨g1, g2⟩ := and4 h4
          have e := of_decide_eq_true g1
          subst e
          rw [List.all_cons] at h3
          exact se_pop1 h h1 (and4 h3).1 h2 ((good cs).gv N sc top X h th _ g2)
        · obtain ⟨g1, g2⟩ := and4 h4
          have e := of_decide_eq_true g1
          subst e
          have : cs = .nil := by cases cs <;> first | rfl | exact bot g2
          subst this
          exact se_pop0 h h1 h2
        · exact bot h4, fun _ _ _ _ _ _ _ hc => bot hc, fun _ _ _ _ _ _ _ hc => bot hc, fun _ _ _ _ _ _ _ hc => bot hc, fun _ _ _ _ _ _ _ hc => bot hc⟩
  | .tst c => ⟨fun _ _ _ _ _ _ _ hc => bot hc, fun N sc top X h th ex hc => by
      rcases Bool.or_eq_true_iff.mp (show (ckC t N sc top c ex || (plainT ex && ckE t N sc top c ex)) = true from hc) with h1 | h1
      · obtain ⟨q1, q2⟩ := (good c).gc N sc top X h th ex h1
        exact ⟨q1, fun w => by rw [q2] at w; cases w⟩
      · obtain ⟨h1, h2⟩ := and4 h1
        exact ⟨st_val h1 ((good c).ge N sc top X h th ex h2), fun w => by cases ex <;> first | (cases w; done) | (cases h1; done)⟩, fun _ _ _ _ _ _ _ hc => bot hc, fun _ _ _ _ _ _ _ hc => bot hc, fun _ _ _ _ _ _ _ hc => bot hc⟩
  | .nil => ⟨fun _ _ _ _ _ _ _ hc => bot hc, fun _ _ _ _ _ _ _ hc => bot hc, fun _ _ _ _ _ _ _ hc => bot hc, fun N sc top X h th es hc => by
      cases es <;> first | exact sv_nil | exact bot hc, fun N sc top X h th es hc => by
      cases es <;> first | exact so_nil | exact bot hc⟩
  | .cons c cs => ⟨fun _ _ _ _ _ _ _ hc => bot hc, fun _ _ _ _ _ _ _ hc => bot hc, fun _ _ _ _ _ _ _ hc => bot hc, fun N sc top X h th es hc => by
      cases es with
      | nil => exact bot hc
      | cons e es =>
        obtain ⟨h1, h2⟩ := and4 (show (ckE t N sc top c e && ckV t N sc top cs es) = true from hc)
        exact sv_cons ((good c).ge N sc top X h th _ h1) ((good cs).gv N sc top X h th _ h2), fun N sc top X h th es hc => by
      cases es with
      | nil => exact bot hc
      | cons e es =>
        obtain ⟨h1, h2⟩ := and4 (show ((match c.isBor with
          | some i => match (generalizing := false) e with
            | .Name x _ => nameB N sc i x
            | _ => false
          | none => match (generalizing := false) c.isFb with
            | some (i, n) => plT t N sc (.f i n) e
            | none => ckE t N sc top c e) && ckO t N sc top cs es) = true from hc)
        exact go_cons h th (good c) ((good cs).go N sc top X h th _ h2) h1⟩
  | .sset _ => ⟨fun _ _ _ _ _ _ _ hc => bot hc, fun _ _ _ _ _ _ _ hc => bot hc, fun _ _ _ _ _ _ _ hc => bot hc, fun _ _ _ _ _ _ _ hc => bot hc, fun _ _ _ _ _ _ _ hc => bot hc⟩
  | .dict1 k v => ⟨fun N sc top X h th ex hc => by
      cases ex <;> try exact bot hc
      rename_i ks vs pos
      match ks, vs, hc with
      | [some ek], [ev], hc =>
        obtain ⟨h1, h2⟩ := and4 (show (ckE t N sc top k ek && ckE t N sc top v ev) = true from hc)
        exact se_dict1 ((good k).ge N sc top X h th ek h1) ((good v).ge N sc top X h th ev h2), fun _ _ _ _ _ _ _ hc => bot hc, fun _ _ _ _ _ _ _ hc => bot hc, fun _ _ _ _ _ _ _ hc => bot hc, fun _ _ _ _ _ _ _ hc => bot hc⟩
  | .meth _ _ (.var _) => ⟨fun _ _ _ _ _ _ _ hc => bot hc, fun _ _ _ _ _ _ _ hc => bot hc, fun _ _ _ _ _ _ _ hc => bot hc, fun _ _ _ _ _ _ _ hc => bot hc, fun _ _ _ _ _ _ _ hc => bot hc⟩
  | .meth _ _ (.mv _) => ⟨fun _ _ _ _ _ _ _ hc => bot hc, fun _ _ _ _ _ _ _ hc => bot hc, fun _ _ _ _ _ _ _ hc => bot hc, fun _ _ _ _ _ _ _ hc => bot hc, fun _ _ _ _ _ _ _ hc => bot hc⟩
  | .meth _ _ (.bor _) => ⟨fun _ _ _ _ _ _ _ hc => bot hc, fun _ _ _ _ _ _ _ hc => bot hc, fun _ _ _ _ _ _ _ hc => bot hc, fun _ _ _ _ _ _ _ hc => bot hc, fun _ _ _ _ _ _ _ hc => bot hc⟩
  | .meth _ _ (.fbor _ _) => ⟨fun _ _ _ _ _ _ _ hc => bot hc, fun _ _ _ _ _ _ _ hc => bot hc, fun _ _ _ _ _ _ _ hc => bot hc, fun _ _ _ _ _ _ _ hc => bot hc, fun _ _ _ _ _ _ _ hc => bot hc⟩
  | .meth _ _ (.fld _ _) => ⟨fun _ _ _ _ _ _ _ hc => bot hc, fun _ _ _ _ _ _ _ hc => bot hc, fun _ _ _ _ _ _ _ hc => bot hc, fun _ _ _ _ _ _ _ hc => bot hc, fun _ _ _ _ _ _ _ hc => bot hc⟩
  | .meth _ _ (.cst _) => ⟨fun _ _ _ _ _ _ _ hc => bot hc, fun _ _ _ _ _ _ _ hc => bot hc, fun _ _ _ _ _ _ _ hc => bot hc, fun _ _ _ _ _ _ _ hc => bot hc, fun _ _ _ _ _ _ _ hc => bot hc⟩
  | .meth _ _ (.glob _) => ⟨fun _ _ _ _ _ _ _ hc => bot hc, fun _ _ _ _ _ _ _ hc => bot hc, fun _ _ _ _ _ _ _ hc => bot hc, fun _ _ _ _ _ _ _ hc => bot hc, fun _ _ _ _ _ _ _ hc => bot hc⟩
  | .meth _ _ (.tup _) => ⟨fun _ _ _ _ _ _ _ hc => bot hc, fun _ _ _ _ _ _ _ hc => bot hc, fun _ _ _ _ _ _ _ hc => bot hc, fun _ _ _ _ _ _ _ hc => bot hc, fun _ _ _ _ _ _ _ hc => bot hc⟩
  | .meth _ _ (.lst _) => ⟨fun _ _ _ _ _ _ _ hc => bot hc, fun _ _ _ _ _ _ _ hc => bot hc, fun _ _ _ _ _ _ _ hc => bot hc, fun _ _ _ _ _ _ _ hc => bot hc, fun _ _ _ _ _ _ _ hc => bot hc⟩
  | .meth _ _ (.edict) => ⟨fun _ _ _ _ _ _ _ hc => bot hc, fun _ _ _ _ _ _ _ hc => bot hc, fun _ _ _ _ _ _ _ hc => bot hc, fun _ _ _ _ _ _ _ hc => bot hc, fun _ _ _ _ _ _ _ hc => bot hc⟩
  | .meth _ _ (.op _ _) => ⟨fun _ _ _ _ _ _ _ hc => bot hc, fun _ _ _ _ _ _ _ hc => bot hc, fun _ _ _ _ _ _ _ hc => bot hc, fun _ _ _ _ _ _ _ hc => bot hc, fun _ _ _ _ _ _ _ hc => bot hc⟩
  | .meth _ _ (.and _ _) => ⟨fun _ _ _ _ _ _ _ hc => bot hc, fun _ _ _ _ _ _ _ hc => bot hc, fun _ _ _ _ _ _ _ hc => bot hc, fun _ _ _ _ _ _ _ hc => bot hc, fun _ _ _ _ _ _ _ hc => bot hc⟩
  | .meth _ _ (.or _ _) => ⟨fun _ _ _ _ _ _ _ hc => bot hc, fun _ _ _ _ _ _ _ hc => bot hc, fun _ _ _ _ _ _ _ hc => bot hc, fun _ _ _ _ _ _ _ hc => bot hc, fun _ _ _ _ _ _ _ hc => bot hc⟩
  | .meth _ _ (.not _) => ⟨fun _ _ _ _ _ _ _ hc => bot hc, fun _ _ _ _ _ _ _ hc => bot hc, fun _ _ _ _ _ _ _ hc => bot hc, fun _ _ _ _ _ _ _ hc => bot hc, fun _ _ _ _ _ _ _ hc => bot hc⟩
  | .meth _ _ (.ite _ _ _) => ⟨fun _ _ _ _ _ _ _ hc => bot hc, fun _ _ _ _ _ _ _ hc => bot hc, fun _ _ _ _ _ _ _ hc => bot hc, fun _ _ _ _ _ _ _ hc => bot hc, fun _ _ _ _ _ _ _ hc => bot hc⟩
  | .meth _ _ (.chain _ _ _ _ _) => ⟨fun _ _ _ _ _ _ _ hc => bot hc, fun _ _ _ _ _ _ _ hc => bot hc, fun _ _ _ _ _ _ _ hc => bot hc, fun _ _ _ _ _ _ _ hc => bot hc, fun _ _ _ _ _ _ _ hc => bot hc⟩
  | .meth _ _ (.comp _ _ _ _ _) => ⟨fun _ _ _ _ _ _ _ hc => bot hc, fun _ _ _ _ _ _ _ hc => bot hc, fun _ _ _ _ _ _ _ hc => bot hc, fun _ _ _ _ _ _ _ hc => bot hc, fun _ _ _ _ _ _ _ hc => bot hc⟩
  | .meth _ _ (.dcomp _ _ _ _ _ _) => ⟨fun _ _ _ _ _ _ _ hc => bot hc, fun _ _ _ _ _ _ _ hc => bot hc, fun _ _ _ _ _ _ _ hc => bot hc, fun _ _ _ _ _ _ _ hc => bot hc, fun _ _ _ _ _ _ _ hc => bot hc⟩
  | .meth _ _ (.call _ _ _) => ⟨fun _ _ _ _ _ _ _ hc => bot hc, fun _ _ _ _ _ _ _ hc => bot hc, fun _ _ _ _ _ _ _ hc => bot hc, fun _ _ _ _ _ _ _ hc => bot hc, fun _ _ _ _ _ _ _ hc => bot hc⟩
  | .meth _ _ (.make _ _ _) => ⟨fun _ _ _ _ _ _ _ hc => bot hc, fun _ _ _ _ _ _ _ hc => bot hc, fun _ _ _ _ _ _ _ hc => bot hc, fun _ _ _ _ _ _ _ hc => bot hc, fun _ _ _ _ _ _ _ hc => bot hc⟩
  | .meth _ _ (.meth _ _ _) => ⟨fun _ _ _ _ _ _ _ hc => bot hc, fun _ _ _ _ _ _ _ hc => bot hc, fun _ _ _ _ _ _ _ hc => bot hc, fun _ _ _ _ _ _ _ hc => bot hc, fun _ _ _ _ _ _ _ hc => bot hc⟩
  | .meth _ _ (.sset _) => ⟨fun _ _ _ _ _ _ _ hc => bot hc, fun _ _ _ _ _ _ _ hc => bot hc, fun _ _ _ _ _ _ _ hc => bot hc, fun _ _ _ _ _ _ _ hc => bot hc, fun _ _ _ _ _ _ _ hc => bot hc⟩
  | .meth _ _ (.mut _ _ _) => ⟨fun _ _ _ _ _ _ _ hc => bot hc, fun _ _ _ _ _ _ _ hc => bot hc, fun _ _ _ _ _ _ _ hc => bot hc, fun _ _ _ _ _ _ _ hc => bot hc, fun _ _ _ _ _ _ _ hc => bot hc⟩
  | .meth _ _ (.dict1 _ _) => ⟨fun _ _ _ _ _ _ _ hc => bot hc, fun _ _ _ _ _ _ _ hc => bot hc, fun _ _ _ _ _ _ _ hc => bot hc, fun _ _ _ _ _ _ _ hc => bot hc, fun _ _ _ _ _ _ _ hc => bot hc⟩
  | .meth _ _ (.tst _) => ⟨fun _ _ _ _ _ _ _ hc => bot hc, fun _ _ _ _ _ _ _ hc => bot hc, fun _ _ _ _ _ _ _ hc => bot hc, fun _ _ _ _ _ _ _ hc => bot hc, fun _ _ _ _ _ _ _ hc => bot hc⟩
  | .meth _ _ (.nil) => ⟨fun _ _ _ _ _ _ _ hc => bot hc, fun _ _ _ _ _ _ _ hc => bot hc, fun _ _ _ _ _ _ _ hc => bot hc, fun _ _ _ _ _ _ _ hc => bot hc, fun _ _ _ _ _ _ _ hc => bot hc⟩
end
end Mn
/-! Mn, part W: the check of statements. -/
namespace Mn
open PySem L2 PySem.Spec RZ
open PyProof.Rows hiding St

def cstB : D → Const → Bool
  | .none, .none => true
  | .bool a, .bool b => a == b
  | .int a, .int b => decide (a = b)
  | .str a, .str b => decide (a = b)
  | _, _ => false
theorem cstB_ok {d : D} {c : Const} (h : cstB d c = true) : cstD c = some d := by
  cases d <;> cases c <;> first
    | exact bot h
    | rfl
    | (have := (show (_ == _) = true from h); simp at this; subst this; rfl)
    | (have := of_decide_eq_true (show decide (_ = _) = true from h); subst this; rfl)
def ckG (t : Tab) (N : List Str) (sc : Scope) : List Tg → List Expr → Bool
  | [], [] => true
  | .v i :: r, .Name x _ :: es => locB N sc true i x && ckG t N sc r es
  | .s pl kd :: r, .Subscript eo (.Constant c _ _) _ :: es => plT t N sc pl eo && cstB kd c && ckG t N sc r es
  | _, _ => false
def funB (sc : Scope) : Bool := match sc.kind with
  | .function => true
  | _ => false
/-- a list comprehension that is stored where it stands -/
def lcB (N : List Str) (sc : Scope) (i : Nat) (x : Str) (px : Pos) : CE → Expr → Bool
  | .comp _ _ _ _ _, .ListComp _ [⟨_, _, _, 0⟩] scope cpos => decide (sc.names.lookup x = some .local) && decide (N[i]? = some x) && funB sc && (px.line == cpos.line) && !(scope.names.any fun (n, k) => n == x && (k == .local || k == .cell))
  | _, _ => false
def asgN : Stmt → Option (Str × Pos × Expr × Pos)
  | .Assign [.Name x px] e pos => some (x, px, e, pos)
  | _ => none
theorem asgN_ok {st : Stmt} {x : Str} {px : Pos} {e : Expr} {pos : Pos} (h : asgN st = some (x, px, e, pos)) : st = .Assign [.Name x px] e pos := by
  unfold asgN at h
  split at h
  · cases h; rfl
  · cases h
def names2 : List Expr → Option (Str × Pos × Str × Pos)
  | [.Name x px, .Name y py] => some (x, px, y, py)
  | _ => none
theorem names2_ok {es : List Expr} {x y : Str} {px py : Pos} (h : names2 es = some (x, px, y, py)) : es = [.Name x px, .Name y py] := by
  unfold names2 at h
  split at h
  · cases h; rfl
  · cases h
def two : List Expr → Option (Expr × Expr)
  | [a, b] => some (a, b)
  | _ => none
theorem two_ok {es : List Expr} {a b : Expr} (h : two es = some (a, b)) : es = [a, b] := by
  unfold two at h
  split at h
  · cases h; rfl
  · cases h
def asgT : Stmt → Option (List Expr × Nat × Pos × Expr × Pos)
  | .Assign [.Tuple ts k pt] e pos => some (ts, k, pt, e, pos)
  | _ => none
theorem asgT_ok {st : Stmt} {ts : List Expr} {k : Nat} {pt : Pos} {e : Expr} {pos : Pos} (h : asgT st = some (ts, k, pt, e, pos)) : st = .Assign [.Tuple ts k pt] e pos := by
  unfold asgT at h
  split at h
  · cases h; rfl
  · cases h
def tupV : Expr → Option (List Expr × Nat × Pos)
  | .Tuple vs k p => some (vs, k, p)
  | _ => none
theorem tupV_ok {e : Expr} {vs : List Expr} {k : Nat} {pt : Pos} (h : tupV e = some (vs, k, pt)) : e = .Tuple vs k pt := by
  unfold tupV at h
  split at h
  · cases h; rfl
  · cases h
def augN : Stmt → Option (Str × Pos × Operator × Expr × Pos)
  | .AugAssign (.Name x px) op e pos => some (x, px, op, e, pos)
  | _ => none
theorem augN_ok {st : Stmt} {x : Str} {px : Pos} {op : Operator} {e : Expr} {pos : Pos} (h : augN st = some (x, px, op, e, pos)) : st = .AugAssign (.Name x px) op e pos := by
  unfold augN at h
  split at h
  · cases h; rfl
  · cases h
def asgS : Stmt → Option (Expr × Expr × Pos × Expr × Pos)
  | .Assign [.Subscript o i sp] e pos => some (o, i, sp, e, pos)
  | _ => none
theorem asgS_ok {st : Stmt} {o i : Expr} {sp : Pos} {e : Expr} {pos : Pos} (h : asgS st = some (o, i, sp, e, pos)) : st = .Assign [.Subscript o i sp] e pos := by
  unfold asgS at h
  split at h
  · cases h; rfl
  · cases h
def asgF : Stmt → Option (Str × Pos × Str × Pos × Expr × Pos)
  | .Assign [.Attribute (.Name x px) f ap] e pos => some (x, px, f, ap, e, pos)
  | _ => none
theorem asgF_ok {st : Stmt} {x f : Str} {px ap : Pos} {e : Expr} {pos : Pos} (h : asgF st = some (x, px, f, ap, e, pos)) : st = .Assign [.Attribute (.Name x px) f ap] e pos := by
  unfold asgF at h
  split at h
  · cases h; rfl
  · cases h
def whV : Stmt → Option (Expr × List Stmt × Pos)
  | .While e sb [] pos => some (e, sb, pos)
  | _ => none
theorem whV_ok {st : Stmt} {e : Expr} {sb : List Stmt} {pos : Pos} (h : whV st = some (e, sb, pos)) : st = .While e sb [] pos := by
  unfold whV at h
  split at h
  · cases h; rfl
  · cases h
def foV : Stmt → Option (Expr × Expr × List Stmt × Pos)
  | .For tg e sb [] pos => some (tg, e, sb, pos)
  | _ => none
theorem foV_ok {st : Stmt} {tg e : Expr} {sb : List Stmt} {pos : Pos} (h : foV st = some (tg, e, sb, pos)) : st = .For tg e sb [] pos := by
  unfold foV at h
  split at h
  · cases h; rfl
  · cases h
mutual
def ckS (t : Tab) (N : List Str) (sc : Scope) : CS → Stmt → Bool
  | .asg i c, st => match asgN st with
    | some (x, px, e, _) => ckE t N sc true c e && ((noComp e && locB N sc true i x) || lcB N sc i x px c e)
    | none => false
  | .par tg cs, st => match tg, asgT st with
    | [i, j], some (ts, _, _, e, _) => match names2 ts, tupV e with
      | some (x, px, y, py), some (vs, _, _) => funB sc && decide (N[i]? = some x) && decide (N[j]? = some y) && decide (sc.names.lookup x = some .local) && decide (sc.names.lookup y = some .local) && (py.line == px.line) && decide (x ≠ y) &&
          vs.all okE && !(vs.all (foldedForSure 8)) && !(vs.all (constantsAlone 8)) && (two vs).isSome && ckO t N sc true cs vs
      | _, _ => false
    | _, _ => false
  | .unp tl c, st => match asgT st with
    | some (ts, _, _, e, _) => ts.all isTg && decide (ts.length = tl.length) && noComp e && (noTup e || (match tupV e with
      | some (vs, _, _) => vs.all (foldedForSure 8)
      | none => false)) && ckG t N sc tl ts && ckE t N sc true c e
    | none => false
  | .aug i o c, st => match augN st with
    | some (x, _, op, e, _) => decide (augO o = some op) && locB N sc true i x && ckE t N sc true c e
    | none => false
  | .sto pl ck cv, st => match asgS st with
    | some (eo, ek, _, ev, _) => plT t N sc pl eo && noComp ev && ckE t N sc true cv ev && ckE t N sc true ck ek
    | none => false
  | .fsto i n c, st => match asgF st with
    | some (x, _, f, _, e, _) => t.has && decide (t.fl n = some f) && nameB N sc i x && noComp e && ckE t N sc true c e
    | none => false
  | .ex c, .Expr e _ => noComp e && ckE t N sc true c e
  | .ret c, .Return (some e) _ => ckE t N sc true c e
  | .retn, .Return none _ => true
  | .ite c a b, .If e sa sb _ => ckT t N sc true c e && ckB t N sc a sa && ckB t N sc b sb
  | .whl c b, st => match whV st with
    | some (e, sb, _) => ckT t N sc true c e && ckB t N sc b sb
    | none => false
  | .loop tg k it b, st => match foV st with
    | some (tge, ie, sb, _) => okE ie && tgB N sc true tg tge && (match itSh sc tge k ie with
      | some es => ckV t N sc true it es
      | none => false) && ckB t N sc b sb
    | none => false
  | .pass, .Pass _ => true
  | .brk, .Break _ => true
  | .cnt, .Continue _ => true
  | .never, _ => true
  | _, _ => false
def ckB (t : Tab) (N : List Str) (sc : Scope) : CS → List Stmt → Bool
  | .nil, [] => true
  | .cons c r, s :: ss => ckS t N sc c s && ckB t N sc r ss
  | _, _ => false
termination_by structural c => c
end
section
variable {t : Tab} {p : PC} {N : List Str} {sc : Scope} {top : Bool} {X : Cx} {C : Ctx} {L : Lk} {k : Nat}
theorem comp_sl (h : XOk p N sc top X) (th : TabOk t p L k X C) {tg : List Nat} {kk : ItK} {it cond elt : CE} {tge ie ee : Expr} {ifs : List Expr} {scope : Scope} {pos : Pos} (hc : ckE t N sc top (.comp tg kk it cond elt) (.ListComp ee [⟨tge, ie, ifs, 0⟩] scope pos) = true) :
    okE ie = true ∧ BlkOk N sc scope ((tgNames tge).zip tg) ∧ ((tgNames tge).zip tg).map (·.2) = tg ∧ SL p C X (.comp tg kk it cond elt) (tLc (WI X tge ie) (gB X scope tge) (tB1 X scope ifs) (eB X scope ee) tg) := by
  obtain ⟨h1, h7⟩ := and4 (show (okE ie && blkC N sc scope ((tgNames tge).zip tg) && decide (((tgNames tge).zip tg).map (·.2) = tg) && tgB N (relS scope sc) false tg tge &&
    (match (generalizing := false) itSh sc tge kk ie with
      | some es => ckV t N sc top it es
      | none => false) &&
    (match (generalizing := false) ifs with
      | [] => cond.isNil
      | [c] => ckT t N (relS scope sc) false cond c
      | _ => false) && ckE t N (relS scope sc) false elt ee) = true from hc)
  obtain ⟨h1, h6⟩ := and4 h1
  obtain ⟨h1, h5⟩ := and4 h1
  obtain ⟨h1, h4⟩ := and4 h1
  obtain ⟨h1, h3⟩ := and4 h1
  obtain ⟨h1, h2⟩ := and4 h1
  have hs : SI p C X kk it tge ie := by
    split at h5
    · rename_i es he
      exact it_ok h he ((good it).gv N sc top X h th _ h5)
    · exact bot h5
  have hbx := xok_blk (scope := scope) h
  have hbt := tab_blk (scope := scope) th
  have hts : Blk X scope fun Y => STs p C Y cond ifs := fun s H Ca cl fp => by
    split at h6
    · have : cond = .nil := by cases cond <;> first | rfl | exact bot h6
      subst this
      exact sts_nil
    · exact sts_one ((good cond).gt N _ _ _ (hbx s H Ca cl fp) (hbt s H Ca cl fp) _ h6).1
    · exact bot h6
  exact ⟨h1, blkOk_by h2, of_decide_eq_true h3, sl_comp h hs (fun s H Ca cl fp => tg_ok (hbx s H Ca cl fp) h4) hts fun s H Ca cl fp => (good elt).ge N _ _ _ (hbx s H Ca cl fp) (hbt s H Ca cl fp) _ h7⟩
theorem pl_cl (th : TabOk t p L k X C) {pl : Pl} {e : Expr} (b : plT t N sc pl e = true) : isV pl = false → ClOk p X.K := fun z => by
  cases pl with
  | v i => cases z
  | f i n => exact (th.cl (has_of b)).1
theorem g_ok (h : XOk p N sc true X) (th : TabOk t p L k X C) : ∀ {tl : List Tg} {es : List Expr}, ckG t N sc tl es = true → SGT p C X tl es
  | [], [], _ => sgt_nil
  | [], _ :: _, e => bot e
  | .v _ :: _, [], e => bot e
  | .s _ _ :: _, [], e => bot e
  | .v i :: r, x :: es, e => by
    cases x <;> try exact bot e
    rename_i nm pos
    obtain ⟨e1, e2⟩ := and4 (show (locB N sc true i nm && ckG t N sc r es) = true from e)
    exact sgt_name h e1 (g_ok h th e2)
  | .s pl kd :: r, x :: es, e => by
    cases x <;> try exact bot e
    rename_i eo ei pos
    cases ei <;> try exact bot e
    rename_i c j cpos
    obtain ⟨e1, e3⟩ := and4 (show (plT t N sc pl eo && cstB kd c && ckG t N sc r es) = true from e)
    obtain ⟨e1, e2⟩ := and4 e1
    exact sgt_sub h (pl_cl th e1) (pl_ok' th e1) (cstB_ok e2) (g_ok h th e3)
theorem fun_ok (h : funB sc = true) : sc.kind = .function := by
  unfold funB at h
  split at h
  · assumption
  · cases h
theorem lc_ok (h : XOk p N sc true X) (th : TabOk t p L k X C) {i : Nat} {x : Str} {px pos : Pos} {c : CE} {e : Expr} (hc : ckE t N sc true c e = true) (b : lcB N sc i x px c e = true) : SS p C X (.asg i c) (.Assign [.Name x px] e pos) := by
  unfold lcB at b
  split at b
  · obtain ⟨b1, b5⟩ := and4 b
    obtain ⟨b1, b4⟩ := and4 b1
    obtain ⟨b1, b3⟩ := and4 b1
    obtain ⟨b1, b2⟩ := and4 b1
    obtain ⟨q1, q2, q3, q4⟩ := comp_sl h th hc
    exact ss_asgLc h (of_decide_eq_true b1) (of_decide_eq_true b2) (fun_ok b3) (bk_of h (fun_ok b3)) b4 (by simpa using b5) q2 q3 q1 q4
  · cases b
structure GoodS (t : Tab) (p : PC) (L : Lk) (k : Nat) (C : Ctx) (N : List Str) (sc : Scope) (X : Cx) (c : CS) : Prop where
  gs : ∀ st, ckS t N sc c st = true → SS p C X c st
  gb : ∀ sts, ckB t N sc c sts = true → SSs p C X c sts
theorem goodS (h : XOk p N sc true X) (th : TabOk t p L k X C) (hp : PassesOwn (model X.prog X.w) X.A X.env X.xe) : (c : CS) → GoodS t p L k C N sc X c
  | .nil => ⟨fun _ hc => bot hc, fun sts hc => by cases sts <;> first | exact sss_nil | exact bot hc⟩
  | .cons c r => ⟨fun _ hc => bot hc, fun sts hc => by
      cases sts with
      | nil => exact bot hc
      | cons s ss =>
        obtain ⟨h1, h2⟩ := and4 (show (ckS t N sc c s && ckB t N sc r ss) = true from hc)
        exact sss_cons ((goodS h th hp c).gs s h1) ((goodS h th hp r).gb ss h2)⟩
  | .asg i c => ⟨fun st hc => by
      unfold ckS at hc
      split at hc
      · rename_i x px e pos hv
        rw [asgN_ok hv]
        obtain ⟨h1, h2⟩ := and4 hc
        rcases Bool.or_eq_true_iff.mp h2 with h2 | h2
        · obtain ⟨h2, h3⟩ := and4 h2
          exact ss_asg h h3 h2 ((good c).ge N sc true X h th e h1)
        · exact lc_ok h th h1 h2
      · exact bot hc, fun _ hc => bot hc⟩
  | .par tg cs => ⟨fun st hc => by
      unfold ckS at hc
      split at hc
      · rename_i i j ts kt pt e pos hv
        split at hc
        · rename_i x px y py vs k2 pt2 h1 h2
          rw [asgT_ok hv, names2_ok h1, tupV_ok h2]
          obtain ⟨g, g12⟩ := and4 hc
          obtain ⟨g, g11⟩ := and4 g
          obtain ⟨g, g10⟩ := and4 g
          obtain ⟨g, g9⟩ := and4 g
          obtain ⟨g, g8⟩ := and4 g
          obtain ⟨g, g7⟩ := and4 g
          obtain ⟨g, g6⟩ := and4 g
          obtain ⟨g, g5⟩ := and4 g
          obtain ⟨g, g4⟩ := and4 g
          obtain ⟨g, g3⟩ := and4 g
          obtain ⟨g1, g2⟩ := and4 g
          obtain ⟨⟨a, b⟩, hab⟩ := Option.isSome_iff_exists.mp g11
          have e := two_ok hab
          subst e
          exact ss_par2 h (fun_ok g1) (of_decide_eq_true g2) (of_decide_eq_true g3) (of_decide_eq_true g4) (of_decide_eq_true g5) g6 (of_decide_eq_true g7) g8 ((Bool.not_eq_true' _).mp g9) ((Bool.not_eq_true' _).mp g10) ((good cs).go N sc true X h th _ g12)
        · cases hc
      · exact bot hc, fun _ hc => bot hc⟩
  | .unp tl c => ⟨fun st hc => by
      unfold ckS at hc
      split at hc
      · rename_i ts kt pt e pos hv
        rw [asgT_ok hv]
        obtain ⟨h1, h6⟩ := and4 hc
        obtain ⟨h1, h5⟩ := and4 h1
        obtain ⟨h1, h4⟩ := and4 h1
        obtain ⟨h1, h3⟩ := and4 h1
        obtain ⟨h1, h2⟩ := and4 h1
        refine ss_unp h h1 (of_decide_eq_true h2) h3 ?_ ((good c).ge N sc true X h th e h6) (g_ok h th h5)
        rcases Bool.or_eq_true_iff.mp h4 with h4 | h4
        · exact swapN h4
        · split at h4
          · rename_i vs k2 pt2 h7
            rw [tupV_ok h7]
            exact swapF h4
          · cases h4
      · exact bot hc, fun _ hc => bot hc⟩
  | .aug i o c => ⟨fun st hc => by
      unfold ckS at hc
      split at hc
      · rename_i x px op e pos hv
        rw [augN_ok hv]
        obtain ⟨h1, h3⟩ := and4 hc
        obtain ⟨h1, h2⟩ := and4 h1
        exact ss_aug h (of_decide_eq_true h1) h2 ((good c).ge N sc true X h th e h3)
      · exact bot hc, fun _ hc => bot hc⟩
  | .sto pl ck cv => ⟨fun st hc => by
      unfold ckS at hc
      split at hc
      · rename_i eo ek sp ev pos hv
        rw [asgS_ok hv]
        obtain ⟨h1, h4⟩ := and4 hc
        obtain ⟨h1, h3⟩ := and4 h1
        obtain ⟨h1, h2⟩ := and4 h1
        exact ss_sto h (pl_cl th h1) (pl_ok' th h1) h2 ((good cv).ge N sc true X h th ev h3) ((good ck).ge N sc true X h th ek h4)
      · exact bot hc, fun _ hc => bot hc⟩
  | .augsto _ _ _ _ => ⟨fun _ hc => bot hc, fun _ hc => bot hc⟩
  | .never => ⟨fun st _ => ss_never, fun _ hc => bot hc⟩
  | .fsto i n c => ⟨fun st hc => by
      unfold ckS at hc
      split at hc
      · rename_i x px f ap e pos hv
        rw [asgF_ok hv]
        obtain ⟨g1, h5⟩ := and4 hc
        obtain ⟨g2, h4⟩ := and4 g1
        obtain ⟨g3, h3⟩ := and4 g2
        obtain ⟨h1, h2⟩ := and4 g3
        clear g1 g2 g3 hc hv
        obtain ⟨ef, hkn⟩ := th.fl n f (of_decide_eq_true h2)
        subst ef
        exact ss_fsto h (th.cl h1).1 (th.cl h1).2 hkn h3 h4 ((good c).ge N sc true X h th e h5)
      · exact bot hc, fun _ hc => bot hc⟩
  | .ex c => ⟨fun st hc => by
      cases st <;> try exact bot hc
      obtain ⟨h1, h2⟩ := and4 hc
      exact ss_ex h1 ((good c).ge N sc true X h th _ h2), fun _ hc => bot hc⟩
  | .ret c => ⟨fun st hc => by
      cases st <;> try exact bot hc
      rename_i v pos
      cases v with
      | none => exact bot hc
      | some e => exact ss_ret ((good c).ge N sc true X h th e hc), fun _ hc => bot hc⟩
  | .retn => ⟨fun st hc => by
      cases st <;> try exact bot hc
      rename_i v pos
      cases v with
      | none => exact ss_retn
      | some e => exact bot hc, fun _ hc => bot hc⟩
  | .ite c a b => ⟨fun st hc => by
      cases st <;> try exact bot hc
      obtain ⟨h1, h3⟩ := and4 hc
      obtain ⟨h1, h2⟩ := and4 h1
      exact ss_ite ((good c).gt N sc true X h th _ h1).1 ((goodS h th hp a).gb _ h2) ((goodS h th hp b).gb _ h3), fun _ hc => bot hc⟩
  | .whl c b => ⟨fun st hc => by
      unfold ckS at hc
      split at hc
      · rename_i e sb pos hv
        rw [whV_ok hv]
        obtain ⟨h1, h2⟩ := and4 hc
        exact ss_whl hp ((good c).gt N sc true X h th e h1).1 ((goodS h th hp b).gb sb h2)
      · exact bot hc, fun _ hc => bot hc⟩
  | .loop tg kk it b => ⟨fun st hc => by
      unfold ckS at hc
      split at hc
      · rename_i tge ie sb pos hv
        rw [foV_ok hv]
        obtain ⟨h1, h4⟩ := and4 hc
        obtain ⟨h1, h3⟩ := and4 h1
        obtain ⟨h1, h2⟩ := and4 h1
        have hs : SI p C X kk it tge ie := by
          split at h3
          · rename_i es he
            exact it_ok h he ((good it).gv N sc true X h th _ h3)
          · cases h3
        exact ss_loop h hp h1 hs (tg_ok h h2) ((goodS h th hp b).gb sb h4)
      · exact bot hc, fun _ hc => bot hc⟩
  | .brk => ⟨fun st hc => by cases st <;> first | exact ss_brk | exact bot hc, fun _ hc => bot hc⟩
  | .cnt => ⟨fun st hc => by cases st <;> first | exact ss_cnt | exact bot hc, fun _ hc => bot hc⟩
  | .pass => ⟨fun st hc => by cases st <;> first | exact ss_pass | exact bot hc, fun _ hc => bot hc⟩
end
end Mn
/-! Mn, part X: a law's end. -/
namespace Mn
open PySem L2 PySem.Spec RZ
open PyProof.Rows hiding St

theorem law_callG {P : Program} {w : World} {K : PySem.W.Frag} {mg mb : Str → Option Value} {k : Nat} {fa a : Addr} {fd : FuncData} {x : Str} {sp : SpN} {sh : Shared} {vs : List Value} {ns : List Int}
    (inK : K.In sh.heap) (gl0 : sh.heap.Ns mainGlobals mg) (bnm : sh.heap.Ns builtinsNs mb) (bn0 : ∀ x : Str, x ≠ "__name__" → mb x = bootBuiltins x) (nl : sh.heap.NoLimit) (hg : sh.gens = #[])
    (atA : sh.heap.get? a = some { cls := .type "list", data := .seq vs.toArray }) (scrI : IntsAre vs ns) (few : ns.length ≤ sizeLine) (room : Room k callerA)
    (FF : ∀ base : Heap, K.In base → base.Ns mainGlobals mg → FnG P w K mg base k fa fd [x] sp) (hbind : ∀ (s : Shared) (u : Value), BindsTo s fd ⟨[u], []⟩ [(x, u)])
    (hsp : ∀ H : Hp, Only H → FzL K H a (ns.map V.int) → sp [.ref a] H (fun v _ => v = .bl true)) :
    codeAny (model P w) callerA (.call (.ref fa) ⟨[.ref a], []⟩) (fun r s' => r = .ok (.ret (.bool true)) ∧ OldK sh.heap s'.heap ∧ s'.os = sh.os ∧ AllBare s'.gens) sh := by
  have rv := vals_ints scrI
  have lenV := scrI.length
  -- the heap of one tracked thing, the script
  have main : ∀ H : Hp, Only H → FzL K H a (ns.map V.int) → HOk P w H sh.heap → (∀ b, H b ≠ none → b = a) → (H a ≠ none → K.lookup a = none) →
      codeAny (model P w) callerA (.call (.ref fa) ⟨[.ref a], []⟩) (fun r s' => r = .ok (.ret (.bool true)) ∧ OldK sh.heap s'.heap ∧ s'.os = sh.os ∧ AllBare s'.gens) sh := by
    intro H only hS okH offA offK
    have keepB : ∀ {b : Addr} {o : Obj}, sh.heap.get? b = some o → H b = none → (hidT sh.heap H).get? b = some o := fun e n => hidT_get e n
    have offD : ∀ {b : Addr} {o : Obj} {es : Array DictEntry} {ep : Nat}, sh.heap.get? b = some o → o.data = .dict es ep → H b = none := fun {b o es ep} e d => by
      cases q : H b with
      | none => rfl
      | some u =>
        have ee : b = a := offA b (by rw [q]; simp)
        subst ee
        rw [atA] at e; cases e
        have dd : Data.seq vs.toArray _ = Data.dict es ep := d
        cases dd
    have nsB : ∀ {b : Addr} {m : Str → Option Value}, sh.heap.Ns b m → (hidT sh.heap H).Ns b m := fun {b m} ⟨o, es, ep, e, d, r⟩ => ⟨o, es, ep, keepB e (offD e d), d, r⟩
    have inB : K.In (hidT sh.heap H) := fun b o e => keepB (inK b o e) (by
      cases q : H b with
      | none => rfl
      | some u =>
        have ee : b = a := offA b (by rw [q]; simp)
        subst ee
        rw [offK (by rw [q]; simp)] at e; cases e)
    have modB : Mod K mg (hidT sh.heap H) := ⟨inB, nsB gl0, ⟨mb, nsB bnm, bn0⟩, let ⟨mc, h1, h2⟩ := nl; ⟨mc, nsB h1, h2⟩⟩
    have env0 : Env0 P w K mg (hidT sh.heap H) callerA [] sh H := ⟨rfl, modB, fun b o e => of_hidT e, Nat.le_of_eq (hidT_size _ _), trivial, fun b bnm => absurd (show b ∈ ([] : List Addr) from bnm) (by simp), okH, .of_eq hg⟩
    refine codeAny_mono ((FF _ inB (nsB gl0)).run callerA [] sh H ⟨[.ref a], []⟩ [.ref a] [.ref a] _ (fun _ _ _ => False) room rfl env0 (hbind sh (.ref a)) (.cons rfl .nil) (hsp H only hS)) fun r s' h => ?_
    cases r with
    | error e => exact (False.elim h)
    | ok fl =>
      cases fl with
      | next => exact False.elim h
      | brk => exact False.elim h
      | cont => exact False.elim h
      | ret u =>
        obtain ⟨v, H', oss, bare, stay, okE, rr, q⟩ := h
        have q' : v = .bl true := q
        subst q'
        obtain rfl : u = Value.bool true := rr
        refine ⟨rfl, OldK.of_keep fun b o e => ?_, oss, bare⟩
        cases q : H b with
        | none => exact stay.keep b o e q (by intro z; exact absurd (show b ∈ ([] : List Addr) from z) (by simp)) (by simp)
        | some u =>
          rcases only b with z | ⟨ob, xs, z⟩
          · rw [q] at z; cases z
          · have z2 := stay.frzs b ob _ z
            obtain ⟨e1, _⟩ := okH b _ z
            obtain ⟨e2, _⟩ := okE b _ z2
            rw [e] at e1; cases e1
            exact e2
  cases hk : K.lookup a with
  | some o =>
    -- a constant of the text
    have e := inK a o hk
    rw [atA] at e
    cases e
    refine main (fun _ => none) (fun _ => .inl rfl) (.inr ⟨vs.toArray, _, hk, by rw [List.size_toArray, lenV]; exact few, by simpa using rv⟩) (fun b u z => by have zz : (none : Option HO) = some u := z; cases zz) (fun b z => absurd rfl z) fun z => absurd rfl z
  | none =>
    refine main (fun b => if b = a then some (.frz { cls := .type "list", data := .seq vs.toArray } (.lst (ns.map V.int))) else none) (fun b => ?_) (.inl ⟨{ cls := .type "list", data := .seq vs.toArray }, if_pos rfl⟩) (fun b u z => ?_) (fun b z => ?_) fun _ => hk
    · by_cases bnm : b = a
      · exact .inr ⟨_, _, if_pos bnm⟩
      · exact .inl (if_neg bnm)
    · by_cases bnm : b = a
      · have zz := (if_pos bnm).symm.trans z
        cases zz
        subst bnm
        exact ⟨atA, by rw [List.length_map]; exact few, vs, _, rv, atA⟩
      · have zz := (if_neg bnm).symm.trans z
        cases zz
    · by_cases bnm : b = a
      · exact bnm
      · exact absurd (if_neg bnm) z

/-- a function of the text, with the machine's text of it -/
structure FnS where
  d : He.DefD
  N : List Str
  ps : List Str
  fn : Fn
def scB (N ps : List Str) (sc : Scope) : Bool := funB sc && !sc.isCoroutine && !sc.isGenerator && decide N.Nodup && decide (N.take ps.length = ps) && (ps.all fun x => decide (sc.names.lookup x = some .local) || decide (sc.names.lookup x = some .cell)) && (sc.names.all fun y => decide (y.2 ≠ .free))
theorem scB_ok {N ps : List Str} {sc : Scope} (h : scB N ps sc = true) : FnScope N ps sc := by
  unfold scB at h
  obtain ⟨h, h7⟩ := and4 h
  obtain ⟨h, h6⟩ := and4 h
  obtain ⟨h, h5⟩ := and4 h
  obtain ⟨h, h4⟩ := and4 h
  obtain ⟨h, h3⟩ := and4 h
  obtain ⟨h1, h2⟩ := and4 h
  refine ⟨fun_ok h1, by simpa using h2, by simpa using h3, of_decide_eq_true h4, of_decide_eq_true h5, fun x hx => ?_, fun y hy => ?_⟩
  · rcases Bool.or_eq_true_iff.mp (List.all_eq_true.mp h6 x hx) with z | z
    · exact .inl (of_decide_eq_true z)
    · exact .inr (of_decide_eq_true z)
  · exact of_decide_eq_true (List.all_eq_true.mp h7 y hy)
/-- the law's text: constants, functions, classes, fields -/
structure Text where
  cs : List (Str × D)
  fns : List FnS
  cls : List Str
  flds : List Str
  kws : List (Nat × List Str × List Nat)
namespace Text
variable (x : Text)
def T (f : Nat) : Option Fn := (x.fns[f]?).map (·.fn)
def glb (k : Nat) : Option D := (x.cs[k]?).map (·.2)
def tab : Tab where
  gn := fun k => ((x.cs[k]?).map (·.1)).getD ""
  fn := fun f => (x.fns[f]?).bind fun s => match s.d.at_ with
    | (n, none) => some n
    | _ => none
  me := fun c f => (x.fns[f]?).bind fun s => match s.d.at_ with
    | (C, some m) => if x.cls[c]? = some C ∧ m ≠ "__init__" then some m else none
    | _ => none
  mkc := fun c f => (x.fns[f]?).bind fun s => match s.d.at_ with
    | (C, some m) => if x.cls[c]? = some C ∧ m = "__init__" then some C else none
    | _ => none
  fl := fun n => x.flds[n]?
  has := !x.cls.isEmpty && !x.flds.isEmpty
  kw := fun f ks pm => decide ((f, ks, pm) ∈ x.kws)
def pc (K : PySem.W.Frag) : PC := ⟨fun c => He.ga K ((x.cls[c]?).getD (x.cls.headD "")), fun n => (x.flds[n]?).getD "", fun n => decide (n < x.flds.length)⟩
/-- what the head is to tell -/
def facts : List He.Fa := (BN.map He.Fa.free) ++ (x.cs.filterMap fun c => match c.2 with
    | .int i => some (He.Fa.int c.1 i)
    | .str z => some (He.Fa.str c.1 z)
    | _ => none) ++ (x.fns.filterMap fun s => match s.d.at_ with
    | (n, none) => some (He.Fa.glo n)
    | _ => none) ++ (x.cls.map He.Fa.glo) ++ (x.cls.map He.Fa.cls) ++ (x.cls.flatMap fun c => x.flds.map fun f => He.Fa.noat c f) ++ (x.fns.filterMap fun s => match s.d.at_ with
    | (C, some m) => if m = "__init__" then some (He.Fa.mkr C) else some (He.Fa.meth C m)
    | _ => none)
def nodb (n : Str) : Bool := !(n == ("__debug__" : Str))
def csB (c : Str × D) : Bool := nodb c.1 && (match c.2 with
  | .int _ => true
  | .str _ => true
  | _ => false)
/-- what is to be checked of the text -/
def fnB (s : FnS) : Bool := scB s.N s.ps s.d.scope && decide (s.fn.ps = s.ps.length) && decide (s.fn.many = s.N.length) && ckB x.tab s.N s.d.scope s.fn.body s.d.body && nodb s.d.at_.1 && (match s.d.at_.2 with
  | some m => !(x.flds.contains m)
  | none => true) && s.d.dfl.isEmpty && s.d.kwd.isEmpty
/-- keywords in some sequence -/
def kwB (q : Nat × List Str × List Nat) : Bool := decide (q.2.2.Perm (List.range q.2.1.length)) && (match x.fns[q.1]? with
  | some s => decide (q.2.2.length = s.ps.length)
  | none => false)
def okB : Bool := (x.cs.all csB && x.fns.all x.fnB && x.cls.all nodb && decide x.flds.Nodup) && x.kws.all x.kwB
def lk (K : PySem.W.Frag) (fd : Nat → FuncData) : Lk := ⟨fun f => match x.fns[f]? with | some s => He.fAd K s.d.at_ | none => 0, fd, fun f => match x.fns[f]? with | some s => s.d.at_.1 | none => "", fun f => match x.fns[f]? with | some s => s.ps | none => []⟩
end Text
section
variable {x : Text} {P : Program} {w : World} {K : PySem.W.Frag} {mg : Str → Option Value} {base : Heap} {fd : Nat → FuncData} {h : Heap}
theorem blt_ok (KX : K.In h) (G : h.Ns mainGlobals mg) (c : He.SaysD x.facts (x.fns.map (·.d)) K) : ∀ y ∈ BN, mg y = none := fun y hy =>
  He.free_ok KX G (c.facts (f := .free y) (by
    unfold Text.facts
    simp only [List.append_assoc, List.mem_append]
    exact .inl (List.mem_map_of_mem hy)))
theorem tab_ok {X : Cx} {C : Ctx} {k : Nat} (sm : Same P w K mg base X) (KX : K.In h) (G : h.Ns mainGlobals mg) (c : He.SaysD x.facts (x.fns.map (·.d)) K) (ok : x.okB = true) (hC : C.glb = x.glb) (co : ∀ f s, x.fns[f]? = some s → CallOk (x.pc K) X C (x.lk K fd) k f) (kk : ∀ q ∈ x.kws, ∀ s, x.fns[q.1]? = some s → KwTo K (fd q.1) s.ps q.2.1 q.2.2) : TabOk x.tab (x.pc K) (x.lk K fd) k X C := by
  obtain ⟨ok, ok5⟩ := and4 ok
  obtain ⟨ok1, ok4⟩ := and4 ok
  obtain ⟨ok1, ok3⟩ := and4 ok1
  obtain ⟨ok1, ok2⟩ := and4 ok1
  have nd : x.flds.Nodup := of_decide_eq_true ok4
  have fnb : ∀ {f s}, x.fns[f]? = some s → x.fnB s = true := fun {f s} e => List.all_eq_true.mp ok2 s (List.mem_of_getElem? e)
  have dbg : ∀ {n : Str}, Text.nodb n = true → (n == ("__debug__" : Str)) = false := fun {n} e => by
    unfold Text.nodb at e
    simpa using e
  refine ⟨fun i d e => ?_, fun f n e => ?_, fun cc f m e => ?_, fun cc f n e => ?_, fun hs => ⟨⟨fun cc => ?_, fun cc n hn => ?_⟩, fun a b ha hb e => ?_⟩, fun n y e => ?_, fun f ks pm e => ?_⟩
  · rw [hC] at e
    obtain ⟨⟨n, d'⟩, e1, e2⟩ := Option.map_eq_some_iff.mp (show (x.cs[i]?).map (·.2) = some d from e)
    cases e2
    have en : x.tab.gn i = n := by simp only [Text.tab, e1]; rfl
    have hm := List.mem_of_getElem? e1
    have cb := List.all_eq_true.mp ok1 _ hm
    obtain ⟨c1, c2⟩ := and4 cb
    rw [en]
    cases d' with
    | int j =>
      obtain ⟨t, ht⟩ := He.int_ok KX G (c.facts (f := .int n j) (by
        unfold Text.facts
        simp only [List.append_assoc, List.mem_append]
        exact .inr (.inl (List.mem_filterMap.mpr ⟨_, hm, rfl⟩))))
      exact ⟨.int j, _, by rw [sm.mg]; exact ht, ⟨t, rfl⟩, dbg c1, fun _ _ _ _ => .int j⟩
    | str z =>
      obtain ⟨t, ht⟩ := He.str_ok KX G (c.facts (f := .str n z) (by
        unfold Text.facts
        simp only [List.append_assoc, List.mem_append]
        exact .inr (.inl (List.mem_filterMap.mpr ⟨_, hm, rfl⟩))))
      exact ⟨.str z, _, by rw [sm.mg]; exact ht, ⟨t, rfl⟩, dbg c1, fun _ _ _ _ => .str z⟩
    | _ => cases c2
  · obtain ⟨s, e1, e2⟩ := Option.bind_eq_some_iff.mp e
    split at e2
    · rename_i n' ha
      cases e2
      have fb := fnb e1
      have en : (x.lk K fd).nm f = n := by show (match x.fns[f]? with | some s => s.d.at_.1 | none => "") = n; rw [e1]; simp only [ha]
      have ea : (x.lk K fd).ad f = He.ga K n := by show (match x.fns[f]? with | some s => He.fAd K s.d.at_ | none => 0) = _; rw [e1]; simp only [ha]; rfl
      refine ⟨co f s e1, en, ?_, ?_⟩
      · rw [ea, sm.mg]
        exact He.glo_ok KX G (c.facts (f := .glo n) (by
          unfold Text.facts
          simp only [List.append_assoc, List.mem_append]
          exact .inr (.inr (.inl (List.mem_filterMap.mpr ⟨s, List.mem_of_getElem? e1, by simp only [ha]⟩)))))
      · have : Text.nodb s.d.at_.1 = true := by
          unfold Text.fnB at fb
          simp only [Bool.and_eq_true] at fb
          exact fb.1.1.1.2
        rw [ha] at this
        exact dbg this
    · cases e2
  · obtain ⟨s, e1, e2⟩ := Option.bind_eq_some_iff.mp e
    split at e2
    · rename_i n' m' ha
      split at e2
      · rename_i g
        cases e2
        have ea : (x.lk K fd).ad f = He.ma K (He.ga K n') m := by show (match x.fns[f]? with | some s => He.fAd K s.d.at_ | none => 0) = _; rw [e1]; simp only [ha]; rfl
        have ec : (x.pc K).cls cc = He.ga K n' := by show He.ga K ((x.cls[cc]?).getD _) = _; rw [g.1]; rfl
        refine ⟨co f s e1, ⟨?_, fun n hn e => ?_⟩⟩
        · rw [ea, ec, sm.K]
          exact He.meth_ok (c.facts (f := .meth n' m) (by
            unfold Text.facts
            simp only [List.append_assoc, List.mem_append]
            exact .inr (.inr (.inr (.inr (.inr (.inr (List.mem_filterMap.mpr ⟨s, List.mem_of_getElem? e1, by simp only [ha]; rw [if_neg g.2]⟩))))))))
        · have fb := fnb e1
          unfold Text.fnB at fb
          simp only [Bool.and_eq_true] at fb
          have q := fb.1.1.2
          rw [ha] at q
          have hn' : n < x.flds.length := of_decide_eq_true hn
          have : (x.flds[n]?).getD "" = m := e
          rw [List.getElem?_eq_getElem hn'] at this
          have : x.flds[n] = m := this
          have hmem : m ∈ x.flds := this ▸ List.getElem_mem hn'
          simp [List.contains_iff_mem, hmem] at q
      · cases e2
    · cases e2
  · obtain ⟨s, e1, e2⟩ := Option.bind_eq_some_iff.mp e
    split at e2
    · rename_i n' m' ha
      split at e2
      · rename_i g
        cases e2
        obtain ⟨g1, rfl⟩ := g
        have ea : (x.lk K fd).ad f = He.ma K (He.ga K n) "__init__" := by show (match x.fns[f]? with | some s => He.fAd K s.d.at_ | none => 0) = _; rw [e1]; simp only [ha]; rfl
        have ec : (x.pc K).cls cc = He.ga K n := by show He.ga K ((x.cls[cc]?).getD _) = _; rw [g1]; rfl
        have hcm := List.mem_of_getElem? g1
        refine ⟨co f s e1, ?_, ?_, dbg (List.all_eq_true.mp ok3 n hcm)⟩
        · rw [ea, ec, sm.K]
          exact He.mkr_ok (c.facts (f := .mkr n) (by
            unfold Text.facts
            simp only [List.append_assoc, List.mem_append]
            exact .inr (.inr (.inr (.inr (.inr (.inr (List.mem_filterMap.mpr ⟨s, List.mem_of_getElem? e1, by simp only [ha]; exact if_pos trivial⟩))))))))
        · rw [ec, sm.mg]
          exact He.glo_ok KX G (c.facts (f := .glo n) (by
            unfold Text.facts
            simp only [List.append_assoc, List.mem_append]
            exact .inr (.inr (.inr (.inl (List.mem_map_of_mem hcm))))))
      · cases e2
    · cases e2
  · have hm : (x.cls[cc]?).getD (x.cls.headD "") ∈ x.cls := by
      cases q : x.cls[cc]? with
      | some n => exact List.mem_of_getElem? q
      | none =>
        have : x.cls ≠ [] := fun z => by
          have hs' : (!x.cls.isEmpty && !x.flds.isEmpty) = true := hs
          rw [z] at hs'; cases hs'
        cases hc : x.cls with
        | nil => exact absurd hc this
        | cons a r => exact List.mem_cons_self
    rw [sm.K]
    exact He.cls_ok (c.facts (f := .cls ((x.cls[cc]?).getD (x.cls.headD ""))) (by
      unfold Text.facts
      simp only [List.append_assoc, List.mem_append]
      exact .inr (.inr (.inr (.inr (.inl (List.mem_map_of_mem hm)))))))
  · have hm : (x.cls[cc]?).getD (x.cls.headD "") ∈ x.cls := by
      cases q : x.cls[cc]? with
      | some n => exact List.mem_of_getElem? q
      | none =>
        have : x.cls ≠ [] := fun z => by
          have hs' : (!x.cls.isEmpty && !x.flds.isEmpty) = true := hs
          rw [z] at hs'; cases hs'
        cases hc : x.cls with
        | nil => exact absurd hc this
        | cons a r => exact List.mem_cons_self
    have hn' : n < x.flds.length := of_decide_eq_true hn
    have hf : (x.flds[n]?).getD "" ∈ x.flds := by rw [List.getElem?_eq_getElem hn']; exact List.getElem_mem hn'
    rw [sm.K]
    exact He.noat_ok (c.facts (f := .noat ((x.cls[cc]?).getD (x.cls.headD "")) ((x.flds[n]?).getD "")) (by
      unfold Text.facts
      simp only [List.append_assoc, List.mem_append]
      exact .inr (.inr (.inr (.inr (.inr (.inl (List.mem_flatMap.mpr ⟨_, hm, List.mem_map_of_mem hf⟩))))))))
  · have ha' : a < x.flds.length := of_decide_eq_true ha
    have hb' : b < x.flds.length := of_decide_eq_true hb
    have e' : (x.flds[a]?).getD "" = (x.flds[b]?).getD "" := e
    rw [List.getElem?_eq_getElem ha', List.getElem?_eq_getElem hb'] at e'
    exact (List.getElem_inj nd).mp e'
  · obtain ⟨h1, h2⟩ := List.getElem?_eq_some_iff.mp (show x.flds[n]? = some y from e)
    refine ⟨?_, decide_eq_true h1⟩
    show (x.flds[n]?).getD "" = y
    rw [show x.flds[n]? = some y from e]; rfl
  · have hm : (f, ks, pm) ∈ x.kws := of_decide_eq_true (show decide ((f, ks, pm) ∈ x.kws) = true from e)
    have q := List.all_eq_true.mp ok5 _ hm
    unfold Text.kwB at q
    obtain ⟨q1, q2⟩ := and4 q
    dsimp only at q1 q2
    split at q2
    · rename_i s hs
      have ep : (x.lk K fd).ps f = s.ps := by show (match x.fns[f]? with | some s => s.ps | none => []) = _; rw [hs]
      rw [ep, sm.K]
      exact ⟨kk _ hm s hs, of_decide_eq_true q2, of_decide_eq_true q1⟩
    · cases q2
/-- every function, at every level -/
theorem levels {fuel : Nat} (KX : K.In h) (G : h.Ns mainGlobals mg) (c : He.SaysD x.facts (x.fns.map (·.d)) K) (ok : x.okB = true)
    (FF : ∀ f s, x.fns[f]? = some s → FunD K s.d.name s.d.qual s.d.params s.d.body s.d.scope [] [] (He.fAd K s.d.at_) (fd f)) (BB : ∀ f s, x.fns[f]? = some s → Binds K (fd f) s.ps []) (KK : ∀ q ∈ x.kws, ∀ s, x.fns[q.1]? = some s → KwTo K (fd q.1) s.ps q.2.1 q.2.2) :
    ∀ n f s, x.fns[f]? = some s → FnG P w K mg base (2 * n) (He.fAd K s.d.at_) (fd f) s.ps (spF (x.pc K) K (callN x.T x.glb fuel n) f) := by
  intro n
  induction n with
  | zero => exact fun f s _ => ⟨fun vs H Q ⟨_, _, _, _, _, _, _, e, _⟩ => (nomatch e), fun A outer s H args us vs Q E _ _ _ _ _ ⟨_, _, _, _, _, _, _, e, _⟩ => (nomatch e)⟩
  | succ n ih =>
    intro f s es
    obtain ⟨oc, od, dV, kV, doc, pm, an, cdv, ct, osl, efd, look, hcd, _, _⟩ := (FF f s es).ex
    obtain ⟨ok1, _⟩ := and4 ok
    obtain ⟨ok1, _⟩ := and4 ok1
    obtain ⟨ok1, _⟩ := and4 ok1
    obtain ⟨_, ok2⟩ := and4 ok1
    have fb : x.fnB s = true := List.all_eq_true.mp ok2 s (List.mem_of_getElem? es)
    unfold Text.fnB at fb
    simp only [Bool.and_eq_true] at fb
    obtain ⟨⟨⟨⟨⟨⟨⟨b1, b2⟩, b3⟩, b4⟩, _⟩, _⟩, _⟩, _⟩ := fb
    have hT : x.T f = some s.fn := by show (x.fns[f]?).map (·.fn) = _; rw [es]; rfl
    rw [efd]
    rw [efd] at look
    refine fnG_of (k := 2 * n + 1) look hcd (scB_ok b1) hT (of_decide_eq_true b2) (of_decide_eq_true b3) (blt_ok KX G c) fun X sm xok hp hr => ?_
    refine (goodS xok (tab_ok (k := 2 * n) (fd := fd) sm KX G c ok rfl (fun f' s' e' => ⟨?_, hr, ⟨?_, ?_⟩⟩) KK) hp s.fn.body).gb s.d.body b4
    · have := ih f' s' e'
      have ea : (x.lk K fd).ad f' = He.fAd K s'.d.at_ := by show (match x.fns[f']? with | some s => He.fAd K s.d.at_ | none => 0) = _; rw [e']
      have ep : (x.lk K fd).ps f' = s'.ps := by show (match x.fns[f']? with | some s => s.ps | none => []) = _; rw [e']
      rw [sm.prog, sm.w, sm.K, sm.mg, sm.base, ea, ep]
      exact this
    · have ea : (x.lk K fd).ad f' = He.fAd K s'.d.at_ := by show (match x.fns[f']? with | some s => He.fAd K s.d.at_ | none => 0) = _; rw [e']
      rw [ea, sm.K]
      exact (FF f' s' e').kp
    · have ep : (x.lk K fd).ps f' = s'.ps := by show (match x.fns[f']? with | some s => s.ps | none => []) = _; rw [e']
      rw [ep, sm.K]
      exact BB f' s' e'
end
end Mn
/-! Mn, part Y: a law, by what the machine makes of its text. -/
namespace Mn
open PySem L2 PySem.Spec RZ
open PyProof.Rows hiding St

/-- the parameters take the arguments one by one -/
def BindOk (s : FnS) : Prop := ∀ (kV doc pm : Value) (an : Option Addr) (cdv ct : Value) (us : List Value), us.length = s.ps.length → bindArgs (PySem.W.fnOf s.d.name s.d.qual s.d.params s.d.body s.d.scope .none kV doc pm an cdv ct) ⟨us, []⟩ = pure (s.ps.zip us)
/-- and keywords -/
def BindKOk (s : FnS) (ks : List Str) (pm : List Nat) : Prop := ∀ (kV doc q : Value) (an : Option Addr) (cdv ct : Value) (ws us : List Value), ws.length = ks.length → (pm.mapM fun i => ws[i]?) = some us → bindArgs (PySem.W.fnOf s.d.name s.d.qual s.d.params s.d.body s.d.scope .none kV doc q an cdv ct) ⟨[], ks.zip ws⟩ = pure (s.ps.zip us)
theorem kwTo_of {K : PySem.W.Frag} {x : Str} {qual : Str} {params : Arguments} {body : List Stmt} {scope : Scope} {f : Addr} {fd : FuncData} {ps ks : List Str} {pm : List Nat} (F : FunD K x qual params body scope [] [] f fd)
    (h : ∀ (kV doc q : Value) (an : Option Addr) (cdv ct : Value) (ws us : List Value), ws.length = ks.length → (pm.mapM fun i => ws[i]?) = some us → bindArgs (PySem.W.fnOf x qual params body scope .none kV doc q an cdv ct) ⟨[], ks.zip ws⟩ = pure (ps.zip us)) : KwTo K fd ps ks pm := by
  obtain ⟨oc, od, dV, kV, doc, q, an, cdv, ct, osl, rfl, lk, hcd, hD, hK⟩ := F.ex
  rcases hD with ⟨_, rfl⟩ | ⟨e, _⟩
  · exact fun s ws us _ hl hu => .of_eq (h kV doc q an cdv ct ws us hl hu)
  · exact absurd rfl e
section
variable {x : Text}
theorem rp_ints {K : PySem.W.Frag} {H : Hp} : ∀ (ns : List Int), RpAll K H (or_ noA (Own fun _ => noA)) (ns.map V.int) (ns.map PyData.int)
  | [] => .nil
  | n :: r => .cons (.int n) (rp_ints r)
theorem law_end {l : PySem.W.OpenLaw} {n fuel lv f0 : Nat} {q : Program} {loose : List Str} {XP : (Str → Option Value) → Heap → Prop} {d : DefRec} {xn : Str} {s0 : FnS} (hn : l.most = some n) (hn2 : n ≤ sizeLine) (hdf : d.params.defaults = []) (room : Room (2 * lv) callerA)
    (ok : x.okB = true) (bs : ∀ s ∈ x.fns, BindOk s) (kbs : ∀ q ∈ x.kws, ∀ s, x.fns[q.1]? = some s → BindKOk s q.2.1 q.2.2) (h0 : x.fns[f0]? = some s0) (ha : s0.d.at_ = (d.name, none)) (hp : s0.ps = [xn])
    (law : ∀ ns : List Int, ns.length ≤ n → ∃ out, callN x.T x.glb fuel lv f0 [.d (.list (ns.map PyData.int))] = .ok (.d (.bool true), out)) :
    PySem.W.WalkO q loose XP (fun _ h => ∃ K : PySem.W.Frag, K.In h ∧ He.SaysD x.facts (x.fns.map (·.d)) K) l.row.toRowW d [] (fun f vs => PySem.call f vs) := by
  refine (Att.attach_call hn hdf fun w s₀ s₁ mg mb fa o pm cd doc a vs ns G Y ho hd hcd hmg hobj hints hlen hg => ?_)
  obtain ⟨K, KX, c⟩ := Y
  have def_ : ∀ s ∈ x.fns, ∃ fd, FunD K s.d.name s.d.qual s.d.params s.d.body s.d.scope [] [] (He.fAd K s.d.at_) fd := fun s hs => by
    obtain ⟨fd, F⟩ := c.defs (d := s.d) (List.mem_map_of_mem hs)
    obtain ⟨ok1, _⟩ := and4 ok
    obtain ⟨ok1, _⟩ := and4 ok1
    obtain ⟨ok1, _⟩ := and4 ok1
    obtain ⟨_, ok2⟩ := and4 ok1
    have fb : x.fnB s = true := List.all_eq_true.mp ok2 s hs
    unfold Text.fnB at fb
    simp only [Bool.and_eq_true] at fb
    have e1 : s.d.dfl = [] := List.isEmpty_iff.mp fb.1.2
    have e2 : s.d.kwd = [] := List.isEmpty_iff.mp fb.2
    have d1 : s.d.dvs K = [] := by unfold He.DefD.dvs; rw [e1]; rfl
    have d2 : s.d.kws K = [] := by unfold He.DefD.kws; rw [e2]; rfl
    rw [d1, d2] at F
    exact ⟨fd, F⟩
  let fd : Nat → FuncData := fun f => match hf : x.fns[f]? with
    | some s => (def_ s (List.mem_of_getElem? hf)).choose
    | none => (def_ s0 (List.mem_of_getElem? h0)).choose
  have FF : ∀ f s, x.fns[f]? = some s → FunD K s.d.name s.d.qual s.d.params s.d.body s.d.scope [] [] (He.fAd K s.d.at_) (fd f) := fun f s hs => by
    show FunD K s.d.name s.d.qual s.d.params s.d.body s.d.scope [] [] (He.fAd K s.d.at_) (match hf : x.fns[f]? with
      | some s => (def_ s (List.mem_of_getElem? hf)).choose
      | none => (def_ s0 (List.mem_of_getElem? h0)).choose)
    split
    · rename_i s' hs'
      rw [hs] at hs'
      cases hs'
      exact (def_ s (List.mem_of_getElem? hs)).choose_spec
    · rename_i hs'
      rw [hs] at hs'; cases hs'
  have BB : ∀ f s, x.fns[f]? = some s → Binds K (fd f) s.ps [] := fun f s hs => (FF f s hs).bindsN (bs s (List.mem_of_getElem? hs))
  have efa : fa = He.fAd K s0.d.at_ := by
    obtain ⟨ok1, _⟩ := and4 ok
    have g := He.glo_ok KX G.T.g (c.facts (f := .glo d.name) (by
      unfold Text.facts
      simp only [List.append_assoc, List.mem_append]
      exact .inr (.inr (.inl (List.mem_filterMap.mpr ⟨s0, List.mem_of_getElem? h0, by simp only [ha]⟩)))))
    rw [hmg] at g
    cases g
    rw [ha]; rfl
  have KK : ∀ q ∈ x.kws, ∀ s, x.fns[q.1]? = some s → KwTo K (fd q.1) s.ps q.2.1 q.2.2 := fun q hq s hs => kwTo_of (FF q.1 s hs) (kbs q hq s hs)
  have lvl := fun base : Heap => levels (P := l.prog) (w := w) (base := base) (fuel := fuel) KX G.T.g c ok FF BB KK lv f0 s0 h0
  refine law_callG (x := xn) (fd := fd f0) (sp := spF (x.pc K) K (callN x.T x.glb fuel lv) f0) KX G.T.g G.T.b G.T.builtins G.T.nolimit hg hobj hints (Nat.le_trans hlen hn2) room (fun base _ _ => by rw [efa, ← hp]; exact lvl base) (fun s u => ?_) fun H hO hS => ?_
  · have := (FF f0 s0 h0).bindsA (ps := s0.ps) (bs s0 (List.mem_of_getElem? h0)) s [u] (by rw [hp]; rfl)
    rw [hp] at this
    exact this
  · obtain ⟨out, hl⟩ := law ns hlen
    refine ⟨[.d (.list (ns.map PyData.int))], noA, fun _ => noA, _, out, rfl, ⟨rfl, fun i m e => ?_, fun i e b z => z, fun i j b z => z.elim, fun i b z => z.elim, fun b z => z.elim⟩, hl, fun v H' own' fp kt f mr st => ?_⟩
    · cases i with
      | zero =>
        cases e
        exact ⟨.ref a, rfl, .b (.d (.lst hS (fun z => z.elim id fun ⟨_, z⟩ => z) (rp_ints ns)) fun _ z => z)⟩
      | succ i => cases e
    · have r := mr.dat.1
      cases r
      rfl
end
end Mn
/-! Plain part 1: the machine's steps as rules that simp follows. wp r Q: r ends well, with Q. What is done with a value behind a step is a constant (K..), so that simp does not look into it before the value is there. -/
namespace Mn
open PySem
def wp {α : Type} (r : R α) (Q : α → Prop) : Prop := ∃ a, r = .ok a ∧ Q a
@[simp] theorem wp_ok {α : Type} (a : α) (Q : α → Prop) : wp (.ok a) Q = Q a := propext ⟨fun ⟨_, e, h⟩ => by cases e; exact h, fun h => ⟨a, rfl, h⟩⟩
@[simp] theorem wp_stuck {α : Type} (Q : α → Prop) : wp .stuck Q = False := propext ⟨fun ⟨_, e, _⟩ => (nomatch e), fun h => h.elim⟩
@[simp] theorem wp_exc {α : Type} (e : Exc) (fr : Fr) (Q : α → Prop) : wp (.exc e fr) Q = False := propext ⟨fun ⟨_, e, _⟩ => (nomatch e), fun h => h.elim⟩
theorem wp_bind {α β : Type} (r : R α) (f : α → R β) (Q : β → Prop) : wp (r.bind f) Q = wp r fun a => wp (f a) Q := by
  cases r with
  | ok a => simp
  | exc _ _ => simp
  | stuck => simp
theorem wp_then {α β : Type} {r : R α} {f : α → R β} {Q : β → Prop} (K : α → Prop) (h : ∀ a, wp (f a) Q = K a) : wp (r.bind f) Q = wp r K := by
  rw [wp_bind]
  congr 1
  exact funext h
theorem wp_mono {α : Type} {r : R α} {P Q : α → Prop} (h : wp r P) (g : ∀ a, P a → Q a) : wp r Q := let ⟨a, e, p⟩ := h; ⟨a, e, g a p⟩
theorem wp_eq {α : Type} {r : R α} {a : α} : wp r (fun b => b = a) ↔ r = .ok a := ⟨fun ⟨b, e, h⟩ => by rw [e, h], fun e => ⟨a, e, rfl⟩⟩
theorem of_wp {α : Type} {r : R α} {a : α} (h : wp r (fun b => b = a)) : r = .ok a := wp_eq.mp h
@[simp] theorem getS_0 (a : Option M) (r : Fr) : getS (a :: r) 0 = a := rfl
@[simp] theorem getS_s (a : Option M) (r : Fr) (n : Nat) : getS (a :: r) (n + 1) = getS r n := rfl
section
variable {T : Nat → Option Fn} {glb : Nat → Option D} {fuel : Nat}
def cx (T : Nat → Option Fn) (glb : Nat → Option D) (fuel n : Nat) (p : List Nat) : Ctx := ⟨callN T glb fuel n, glb, p.contains, fuel⟩
@[simp] theorem cx_cal (n : Nat) (p : List Nat) : (cx T glb fuel n p).cal = callN T glb fuel n := rfl
@[simp] theorem cx_glb (n : Nat) (p : List Nat) : (cx T glb fuel n p).glb = glb := rfl
@[simp] theorem cx_fuel (n : Nat) (p : List Nat) : (cx T glb fuel n p).fuel = fuel := rfl
@[simp] theorem cx_pin (n : Nat) (p : List Nat) (i : Nat) : (cx T glb fuel n p).pin i = p.contains i := rfl
def oneOut (pin : List Nat) (fr : Fr) (k : Nat) : Option M := if pin.contains k then getS fr k else none
@[simp] theorem oneOut_no (fr : Fr) (k : Nat) : oneOut [] fr k = none := rfl
@[simp] theorem oneOut_0 (fr : Fr) : oneOut [0] fr 0 = getS fr 0 := rfl
@[simp] theorem oneOut_1 (fr : Fr) (k : Nat) : oneOut [0] fr (k + 1) = none := rfl
def outN (pin : List Nat) (fr : Fr) (n : Nat) : Fr := (List.range n).map fun k => oneOut pin fr k
@[simp] theorem outN1 (p : List Nat) (fr : Fr) : outN p fr 1 = [oneOut p fr 0] := rfl
@[simp] theorem outN2 (p : List Nat) (fr : Fr) : outN p fr 2 = [oneOut p fr 0, oneOut p fr 1] := rfl
@[simp] theorem outN3 (p : List Nat) (fr : Fr) : outN p fr 3 = [oneOut p fr 0, oneOut p fr 1, oneOut p fr 2] := rfl
@[simp] theorem outN4 (p : List Nat) (fr : Fr) : outN p fr 4 = [oneOut p fr 0, oneOut p fr 1, oneOut p fr 2, oneOut p fr 3] := rfl
@[simp] theorem outN5 (p : List Nat) (fr : Fr) : outN p fr 5 = [oneOut p fr 0, oneOut p fr 1, oneOut p fr 2, oneOut p fr 3, oneOut p fr 4] := rfl
@[simp] theorem outN6 (p : List Nat) (fr : Fr) : outN p fr 6 = [oneOut p fr 0, oneOut p fr 1, oneOut p fr 2, oneOut p fr 3, oneOut p fr 4, oneOut p fr 5] := rfl
@[simp] theorem outN0 (p : List Nat) (fr : Fr) : outN p fr 0 = [] := rfl
def KFin (ps : Nat) (pin : List Nat) (Q : M × Fr → Prop) : Out → Prop
  | .ret m fr => Q (m, outN pin fr ps)
  | .next fr => Q (.d .none, outN pin fr ps)
  | _ => False
@[simp] theorem KFin_ret (ps : Nat) (pin : List Nat) (Q : M × Fr → Prop) (m : M) (fr : Fr) : KFin ps pin Q (.ret m fr) = Q (m, outN pin fr ps) := rfl
@[simp] theorem KFin_next (ps : Nat) (pin : List Nat) (Q : M × Fr → Prop) (fr : Fr) : KFin ps pin Q (.next fr) = Q (.d .none, outN pin fr ps) := rfl
/-- a function's run, from its text -/
theorem w_fn {n f ps many : Nat} {pin : List Nat} {body : CS} {ms : List M} {fr : Fr} {Q : M × Fr → Prop} (h : T f = some ⟨ps, many, pin, body⟩) (hl : ms.length = ps) (hf : ms.map some ++ List.replicate (many - ps) none = fr) :
    wp (callN T glb fuel (n + 1) f ms) Q = wp (exS (cx T glb fuel n pin) body fr) (KFin ps pin Q) := by
  rw [callN, h]
  simp only [hl, if_true]
  have : ms.map some ++ List.replicate (many - ps) none = fr := hf
  simp only [this]
  show wp (match exS (cx T glb fuel n pin) body fr with | .ok (.ret m fr') => R.ok (m, outs ⟨ps, many, pin, body⟩ fr') | .ok (.next fr') => .ok (.d .none, outs ⟨ps, many, pin, body⟩ fr') | .exc e fr' => .exc e (outs ⟨ps, many, pin, body⟩ fr') | _ => .stuck) Q = _
  have eo : ∀ fr', outs ⟨ps, many, pin, body⟩ fr' = outN pin fr' ps := fun fr' => rfl
  cases exS (cx T glb fuel n pin) body fr with
  | ok o => cases o with
    | ret m fr => simp [KFin, eo]
    | next fr => simp [KFin, eo]
    | brk fr => simp [KFin]
    | cnt fr => simp [KFin]
  | exc e f => simp
  | stuck => simp
end
/-! operations -/
def opQ (o : Op) (ds : List D) (fr : Fr) (Q : M × Fr → Prop) : Prop := ∃ m, opsem o ds = some m ∧ Q (m, fr)
theorem opQ_of {o : Op} {ds : List D} {fr : Fr} {Q : M × Fr → Prop} {m : M} (h : opsem o ds = some m) : opQ o ds fr Q = Q (m, fr) := propext ⟨fun ⟨m', e, q⟩ => by rw [h] at e; cases e; exact q, fun q => ⟨m, h, q⟩⟩
def opW (o : Op) (fr : Fr) (Q : M × Fr → Prop) : Option (List D) → Prop
  | some ds => opQ o ds fr Q
  | none => False
@[simp] theorem opW_some (o : Op) (fr : Fr) (Q : M × Fr → Prop) (ds : List D) : opW o fr Q (some ds) = opQ o ds fr Q := rfl
def KOp (o : Op) (Q : M × Fr → Prop) (q : List Opd × Fr) : Prop := opW o q.2 Q (rds q.2 q.1)
@[simp] theorem KOp_eq (o : Op) (Q : M × Fr → Prop) (os : List Opd) (fr : Fr) : KOp o Q (os, fr) = opW o fr Q (rds fr os) := rfl
@[simp] theorem rds_nil (fr : Fr) : rds fr [] = some [] := rfl
@[simp] theorem rds_r (fr : Fr) (i : Nat) (os : List Opd) : rds fr (.r i :: os) = ((getS fr i).bind M.rd).bind fun x => (rds fr os).bind fun xs => some (x :: xs) := rfl
@[simp] theorem rds_v (fr : Fr) (m : M) (os : List Opd) : rds fr (.v m :: os) = m.rd.bind fun x => (rds fr os).bind fun xs => some (x :: xs) := rfl
@[simp] theorem rds_f (fr : Fr) (i n : Nat) (os : List Opd) : rds fr (.f i n :: os) = ((getP fr (.f i n)).bind M.rd).bind fun x => (rds fr os).bind fun xs => some (x :: xs) := rfl
@[simp] theorem rd_d (x : D) : M.rd (.d x) = some x := rfl
@[simp] theorem rd_lst (x : List D) : M.rd (.lst x) = some (.list x) := rfl
@[simp] theorem rd_lck (x : List D) : M.rd (.lck x) = some (.list x) := rfl
@[simp] theorem rd_dic (x : List (D × D)) : M.rd (.dic x) = some (.dict x) := rfl
@[simp] theorem fz_d (x : D) : M.fz (.d x) = some x := rfl
@[simp] theorem fz_lst (x : List D) : M.fz (.lst x) = some (.list x) := rfl
@[simp] theorem getP_v (fr : Fr) (i : Nat) : getP fr (.v i) = getS fr i := rfl
@[simp] theorem getP_f (fr : Fr) (i n : Nat) : getP fr (.f i n) = match getS fr i with
    | some (.ins _ fs) => fget n fs
    | _ => none := rfl
@[simp] theorem setP_v (fr : Fr) (i : Nat) (m : M) : setP fr (.v i) m = fr.set i (some m) := rfl
@[simp] theorem setP_f (fr : Fr) (i n : Nat) (m : M) : setP fr (.f i n) m = match getS fr i with
    | some (.ins c fs) => fr.set i (some (.ins c (fput n m fs)))
    | _ => fr := rfl
@[simp] theorem fget_nil (n : Nat) : fget n [] = none := rfl
@[simp] theorem fget_cons (n k : Nat) (m : M) (r : List (Nat × M)) : fget n ((k, m) :: r) = if k = n then some m else fget n r := rfl
@[simp] theorem fput_nil (n : Nat) (m : M) : fput n m [] = [(n, m)] := rfl
@[simp] theorem fput_cons (n k : Nat) (m u : M) (r : List (Nat × M)) : fput n m ((k, u) :: r) = if k = n then (k, m) :: r else (k, u) :: fput n m r := rfl
section
variable (C : Ctx) (fr : Fr)
/-! expressions -/
@[simp] theorem x_var (i : Nat) : evE C (.var i) fr = match getS fr i with
    | some (.d x) => .ok (.d x, fr)
    | some (.lst xs) => .ok (.d (.list xs), fr.set i (some (.d (.list xs))))
    | _ => .stuck := rfl
@[simp] theorem x_mv (i : Nat) : evE C (.mv i) fr = match getS fr i with
    | some (.d x) => .ok (.d x, fr)
    | some m => if C.pin i then .stuck else .ok (m, fr.set i none)
    | none => .stuck := rfl
@[simp] theorem x_bor (i : Nat) : evE C (.bor i) fr = match getS fr i with
    | some (.d x) => .ok (.d x, fr)
    | _ => .stuck := rfl
@[simp] theorem x_fld (i n : Nat) : evE C (.fld i n) fr = match getP fr (.f i n) with
    | some (.d x) => .ok (.d x, fr)
    | _ => .stuck := rfl
@[simp] theorem x_cst (x : D) : evE C (.cst x) fr = .ok (.d x, fr) := rfl
@[simp] theorem x_glob (k : Nat) : evE C (.glob k) fr = match C.glb k with
    | some x => .ok (.d x, fr)
    | none => .stuck := rfl
@[simp] theorem x_edict : evE C .edict fr = .ok (.dic [], fr) := rfl
def KTup (Q : M × Fr → Prop) (q : List D × Fr) : Prop := Q (.d (.tuple q.1), q.2)
@[simp] theorem KTup_eq (Q : M × Fr → Prop) (xs : List D) (fr : Fr) : KTup Q (xs, fr) = Q (.d (.tuple xs), fr) := rfl
@[simp] theorem w_tup (es : CE) (Q : M × Fr → Prop) : wp (evE C (.tup es) fr) Q = wp (evVs C es fr) (KTup Q) := wp_then (r := evVs C es fr) _ fun q => wp_ok _ _
def KLst (Q : M × Fr → Prop) (q : List D × Fr) : Prop := Q (.lst q.1, q.2)
@[simp] theorem KLst_eq (Q : M × Fr → Prop) (xs : List D) (fr : Fr) : KLst Q (xs, fr) = Q (.lst xs, fr) := rfl
@[simp] theorem w_lst (es : CE) (Q : M × Fr → Prop) : wp (evE C (.lst es) fr) Q = wp (evVs C es fr) (KLst Q) := wp_then (r := evVs C es fr) _ fun q => wp_ok _ _
@[simp] theorem w_op (o : Op) (es : CE) (Q : M × Fr → Prop) : wp (evE C (.op o es) fr) Q = wp (evOs C es fr) (KOp o Q) := wp_then (r := evOs C es fr) _ fun q => by
  obtain ⟨os, f⟩ := q
  show wp (match rds f os with | some ds => (match opsem o ds with | some m => R.ok (m, f) | none => .stuck) | none => .stuck) Q = opW o f Q (rds f os)
  cases rds f os with
  | none => simp [opW]
  | some ds =>
    simp only [opW, opQ]
    cases opsem o ds with
    | none => simp
    | some m => simp
def KAnd (C : Ctx) (b : CE) (Q : M × Fr → Prop) (q : M × Fr) : Prop := match q.1 with
  | .d (.bool t) => if t = true then wp (evE C b q.2) Q else Q (.d (.bool false), q.2)
  | _ => False
@[simp] theorem KAnd_eq (b : CE) (Q : M × Fr → Prop) (t : Bool) : KAnd C b Q (.d (.bool t), fr) = if t = true then wp (evE C b fr) Q else Q (.d (.bool false), fr) := rfl
@[simp] theorem w_and (a b : CE) (Q : M × Fr → Prop) : wp (evE C (.and a b) fr) Q = wp (evE C a fr) (KAnd C b Q) := wp_then (r := evE C a fr) _ fun q => by
  obtain ⟨m, f⟩ := q
  cases m with
  | d x => cases x with
    | bool b => cases b <;> simp [KAnd]
    | _ => simp [KAnd]
  | _ => simp [KAnd]
def KOr (C : Ctx) (b : CE) (Q : M × Fr → Prop) (q : M × Fr) : Prop := match q.1 with
  | .d (.bool t) => if t = true then Q (.d (.bool true), q.2) else wp (evE C b q.2) Q
  | _ => False
@[simp] theorem KOr_eq (b : CE) (Q : M × Fr → Prop) (t : Bool) : KOr C b Q (.d (.bool t), fr) = if t = true then Q (.d (.bool true), fr) else wp (evE C b fr) Q := rfl
@[simp] theorem w_or (a b : CE) (Q : M × Fr → Prop) : wp (evE C (.or a b) fr) Q = wp (evE C a fr) (KOr C b Q) := wp_then (r := evE C a fr) _ fun q => by
  obtain ⟨m, f⟩ := q
  cases m with
  | d x => cases x with
    | bool b => cases b <;> simp [KOr]
    | _ => simp [KOr]
  | _ => simp [KOr]
def KNot (Q : M × Fr → Prop) (q : M × Fr) : Prop := match q.1 with
  | .d (.bool t) => Q (.d (.bool (!t)), q.2)
  | _ => False
@[simp] theorem KNot_eq (Q : M × Fr → Prop) (t : Bool) : KNot Q (.d (.bool t), fr) = Q (.d (.bool (!t)), fr) := rfl
@[simp] theorem w_not (a : CE) (Q : M × Fr → Prop) : wp (evE C (.not a) fr) Q = wp (evE C a fr) (KNot Q) := wp_then (r := evE C a fr) _ fun q => by
  obtain ⟨m, f⟩ := q
  cases m with
  | d x => cases x <;> simp [KNot]
  | _ => simp [KNot]
def KIte (C : Ctx) (a b : CE) (Q : M × Fr → Prop) (q : Bool × Fr) : Prop := if q.1 = true then wp (evE C a q.2) Q else wp (evE C b q.2) Q
@[simp] theorem KIte_eq (a b : CE) (Q : M × Fr → Prop) (t : Bool) : KIte C a b Q (t, fr) = if t = true then wp (evE C a fr) Q else wp (evE C b fr) Q := rfl
@[simp] theorem w_ite (c a b : CE) (Q : M × Fr → Prop) : wp (evE C (.ite c a b) fr) Q = wp (evT C c fr) (KIte C a b Q) := wp_then (r := evT C c fr) _ fun q => by
  obtain ⟨t, f⟩ := q
  cases t <;> rfl
def KCh3 (p : Op) (y : D) (Q : M × Fr → Prop) (q : M × Fr) : Prop := match q.1 with
  | .d z => opQ p [y, z] q.2 fun q => match q.1 with | .d (.bool t) => Q (.d (.bool t), q.2) | _ => False
  | _ => False
def KB (Q : M × Fr → Prop) (q : M × Fr) : Prop := match q.1 with | .d (.bool t) => Q (.d (.bool t), q.2) | _ => False
@[simp] theorem KB_eq (Q : M × Fr → Prop) (t : Bool) : KB Q (.d (.bool t), fr) = Q (.d (.bool t), fr) := rfl
@[simp] theorem KCh3_eq (p : Op) (y z : D) (Q : M × Fr → Prop) : KCh3 p y Q (.d z, fr) = opQ p [y, z] fr (KB Q) := rfl
def KCh (C : Ctx) (p : Op) (y : D) (c : CE) (Q : M × Fr → Prop) (q : M × Fr) : Prop := match q.1 with
  | .d (.bool t) => if t = true then wp (evE C c q.2) (KCh3 p y Q) else Q (.d (.bool false), q.2)
  | _ => False
@[simp] theorem KCh_eq (p : Op) (y : D) (c : CE) (Q : M × Fr → Prop) (t : Bool) : KCh C p y c Q (.d (.bool t), fr) = if t = true then wp (evE C c fr) (KCh3 p y Q) else Q (.d (.bool false), fr) := rfl
def KCh2 (C : Ctx) (o p : Op) (x : M) (c : CE) (Q : M × Fr → Prop) (q : M × Fr) : Prop := match x, q.1 with
  | .d x, .d y => opQ o [x, y] q.2 (KCh C p y c Q)
  | _, _ => False
@[simp] theorem KCh2_eq (o p : Op) (x y : D) (c : CE) (Q : M × Fr → Prop) : KCh2 C o p (.d x) c Q (.d y, fr) = opQ o [x, y] fr (KCh C p y c Q) := rfl
def KCh1 (C : Ctx) (o p : Op) (b c : CE) (Q : M × Fr → Prop) (q : M × Fr) : Prop := wp (evE C b q.2) (KCh2 C o p q.1 c Q)
@[simp] theorem KCh1_eq (o p : Op) (m : M) (b c : CE) (Q : M × Fr → Prop) : KCh1 C o p b c Q (m, fr) = wp (evE C b fr) (KCh2 C o p m c Q) := rfl
@[simp] theorem w_chain (o p : Op) (a b c : CE) (Q : M × Fr → Prop) : wp (evE C (.chain o p a b c) fr) Q = wp (evE C a fr) (KCh1 C o p b c Q) := wp_then (r := evE C a fr) _ fun q => by
  obtain ⟨m, f⟩ := q
  refine wp_then (r := evE C b f) _ fun s => ?_
  obtain ⟨m2, f2⟩ := s
  cases m with
  | d x => cases m2 with
    | d y =>
      show wp (match opsem o [x, y] with | some (.d (.bool true)) => _ | some (.d (.bool false)) => _ | _ => _) Q = opQ o [x, y] f2 (KCh C p y c Q)
      cases e : opsem o [x, y] with
      | none => simp [opQ, e]
      | some r =>
        rw [opQ_of e]
        cases r with
        | d z => cases z with
          | bool t => cases t with
            | false => simp [KCh]
            | true =>
              refine (wp_then (r := evE C c f2) (KCh3 p y Q) fun u => ?_).trans (by simp [KCh])
              obtain ⟨m3, f3⟩ := u
              cases m3 with
              | d z =>
                show wp (match opsem p [y, z] with | some (.d (.bool t)) => _ | _ => _) Q = opQ p [y, z] f3 (KB Q)
                cases e2 : opsem p [y, z] with
                | none => simp [opQ, e2]
                | some r =>
                  rw [opQ_of e2]
                  cases r with
                  | d z => cases z <;> simp [KB]
                  | _ => simp [KB]
              | _ => simp [KCh3]
          | _ => simp [KCh]
        | _ => simp [KCh]
    | _ => simp [KCh2]
  | _ => simp [KCh2]
/-! calls -/
def KBack (os : List Opd) (fr1 : Fr) (Q : M × Fr → Prop) (q : M × Fr) : Prop := Q (q.1, back os q.2 fr1)
@[simp] theorem KBack_eq (os : List Opd) (fr1 : Fr) (Q : M × Fr → Prop) (m : M) (out : Fr) : KBack os fr1 Q (m, out) = Q (m, back os out fr1) := rfl
def lendW (C : Ctx) (f : Nat) (os : List Opd) (Q : M × Fr → Prop) : Option (List M × Fr) → Prop
  | some (ms, fr1) => wp (C.cal f ms) (KBack os fr1 Q)
  | none => False
@[simp] theorem lendW_eq (f : Nat) (os : List Opd) (Q : M × Fr → Prop) (ms : List M) : lendW C f os Q (some (ms, fr)) = wp (C.cal f ms) (KBack os fr Q) := rfl
@[simp] theorem w_callR (f : Nat) (os : List Opd) (Q : M × Fr → Prop) : wp (callR C f none os fr) Q = lendW C f os Q (lend os fr) := by
  unfold callR
  simp only [pick]
  cases lend os fr with
  | none => simp [lendW]
  | some q =>
    obtain ⟨ms, f1⟩ := q
    simp only [lendW]
    cases C.cal f ms with
    | ok a => obtain ⟨r, out⟩ := a; simp [KBack]
    | exc _ _ => simp
    | stuck => simp
@[simp] theorem w_callRp (f : Nat) (p : List Nat) (os : List Opd) (Q : M × Fr → Prop) : wp (callR C f (some p) os fr) Q = match p.mapM fun i => os[i]? with
    | some os => lendW C f os Q (lend os fr)
    | none => False := by
  have e : callR C f (some p) os fr = match p.mapM fun i => os[i]? with
    | some os => callR C f none os fr
    | none => .stuck := by
    unfold callR
    simp only [pick]
    cases p.mapM fun i => os[i]? <;> rfl
  rw [e]
  cases p.mapM fun i => os[i]? with
  | none => simp
  | some os2 => exact w_callR C fr f os2 Q
@[simp] theorem lend_nil : lend [] fr = some ([], fr) := rfl
@[simp] theorem lend_v (m : M) (r : List Opd) : lend (.v m :: r) fr = (lend r fr).bind fun q => some (m :: q.1, q.2) := rfl
@[simp] theorem lend_r (i : Nat) (r : List Opd) : lend (.r i :: r) fr = match getS fr i with
    | some (.d x) => (lend r fr).bind fun q => some (.d x :: q.1, q.2)
    | some m => (lend r (fr.set i none)).bind fun q => some (m :: q.1, q.2)
    | none => none := rfl
@[simp] theorem back_nil (out : Fr) : back [] out fr = fr := by cases out <;> rfl
@[simp] theorem back_nil2 (os : List Opd) : back os [] fr = fr := by cases os with
  | nil => rfl
  | cons o r => cases o <;> rfl
@[simp] theorem back_v (m : M) (r : List Opd) (p : Option M) (ps : Fr) : back (.v m :: r) (p :: ps) fr = back r ps fr := rfl
@[simp] theorem back_r (i : Nat) (r : List Opd) (p : Option M) (ps : Fr) : back (.r i :: r) (p :: ps) fr = back r ps (match getS fr i with | none => fr.set i p | some _ => fr) := rfl
def KCall (C : Ctx) (f : Nat) (ps : Option (List Nat)) (Q : M × Fr → Prop) (q : List Opd × Fr) : Prop := wp (callR C f ps q.1 q.2) Q
@[simp] theorem KCall_eq (f : Nat) (ps : Option (List Nat)) (Q : M × Fr → Prop) (os : List Opd) : KCall C f ps Q (os, fr) = wp (callR C f ps os fr) Q := rfl
@[simp] theorem w_call (f : Nat) (ps : Option (List Nat)) (es : CE) (Q : M × Fr → Prop) : wp (evE C (.call f ps es) fr) Q = wp (evOs C es fr) (KCall C f ps Q) := wp_then (r := evOs C es fr) _ fun q => rfl
def KMeth (C : Ctx) (c f : Nat) (Q : M × Fr → Prop) (q : List Opd × Fr) : Prop := isIns c q.2 q.1 = true ∧ wp (callR C f none q.1 q.2) Q
@[simp] theorem KMeth_eq (c f : Nat) (Q : M × Fr → Prop) (os : List Opd) : KMeth C c f Q (os, fr) = (isIns c fr os = true ∧ wp (callR C f none os fr) Q) := rfl
@[simp] theorem w_meth (c f : Nat) (es : CE) (Q : M × Fr → Prop) : wp (evE C (.meth c f es) fr) Q = (headIns c fr es = true ∧ wp (evOs C es fr) (KMeth C c f Q)) := by
  have e : evE C (.meth c f es) fr = if headIns c fr es then (evOs C es fr).bind fun (os, fr) => if isIns c fr os then callR C f none os fr else .stuck else .stuck := rfl
  rw [e]
  by_cases h : headIns c fr es = true
  · simp only [h, if_true, true_and]
    refine wp_then (r := evOs C es fr) _ fun q => ?_
    obtain ⟨os, f'⟩ := q
    by_cases g : isIns c f' os = true
    · simp [KMeth, g]
    · simp [KMeth, g]
  · simp [h]
@[simp] theorem headIns_b (c i : Nat) (es : CE) : headIns c fr (.cons (.bor i) es) = match getS fr i with
      | some (.ins c' _) => c == c'
      | _ => false := rfl
@[simp] theorem isIns_r (c i : Nat) (os : List Opd) : isIns c fr (.r i :: os) = match getS fr i with
    | some (.ins c' _) => c == c'
    | _ => false := rfl
@[simp] theorem isIns_v (c c' : Nat) (fs : List (Nat × M)) (os : List Opd) : isIns c fr (.v (.ins c' fs) :: os) = (c == c') := rfl
def KMk2 (os : List Opd) (fr1 : Fr) (Q : M × Fr → Prop) : M × Fr → Prop
  | (.d .none, some self :: out) => Q (self, back os out fr1)
  | _ => False
@[simp] theorem KMk2_eq (os : List Opd) (fr1 : Fr) (Q : M × Fr → Prop) (self : M) (out : Fr) : KMk2 os fr1 Q (.d .none, some self :: out) = Q (self, back os out fr1) := rfl
def makeW (C : Ctx) (c f : Nat) (os : List Opd) (Q : M × Fr → Prop) : Option (List M × Fr) → Prop
  | some (ms, fr1) => wp (C.cal f (.ins c [] :: ms)) (KMk2 os fr1 Q)
  | none => False
@[simp] theorem makeW_eq (c f : Nat) (os : List Opd) (Q : M × Fr → Prop) (ms : List M) : makeW C c f os Q (some (ms, fr)) = wp (C.cal f (.ins c [] :: ms)) (KMk2 os fr Q) := rfl
def KMake (C : Ctx) (c f : Nat) (Q : M × Fr → Prop) (q : List Opd × Fr) : Prop := makeW C c f q.1 Q (lend q.1 q.2)
@[simp] theorem KMake_eq (c f : Nat) (Q : M × Fr → Prop) (os : List Opd) : KMake C c f Q (os, fr) = makeW C c f os Q (lend os fr) := rfl
@[simp] theorem w_make (c f : Nat) (es : CE) (Q : M × Fr → Prop) : wp (evE C (.make c f es) fr) Q = wp (evOs C es fr) (KMake C c f Q) := wp_then (r := evOs C es fr) _ fun q => by
  obtain ⟨os, f'⟩ := q
  show wp (match lend os f' with | none => R.stuck | some (ms, fr1) => match C.cal f (.ins c [] :: ms) with | .ok (.d .none, some self :: out) => .ok (self, back os out fr1) | _ => .stuck) Q = makeW C c f os Q (lend os f')
  cases lend os f' with
  | none => simp [makeW]
  | some q =>
    obtain ⟨ms, f1⟩ := q
    simp only [makeW]
    cases C.cal f (.ins c [] :: ms) with
    | ok a =>
      obtain ⟨m, out⟩ := a
      cases m with
      | d x => cases x with
        | none => cases out with
          | nil => simp [KMk2]
          | cons o r => cases o <;> simp [KMk2]
        | _ => simp [KMk2]
      | _ => simp [KMk2]
    | exc _ _ => simp
    | stuck => simp
/-! comprehensions -/
def turnC (C : Ctx) (tg : List Nat) (cond elt : CE) (x : D) (fr : Fr) : R (Option D × Fr) := (take C tg x fr).bind fun fr => (evT C cond fr).bind fun q =>
        if q.1 then (evE C elt q.2).bind fun q => match q.1.fz with | some y => .ok (some y, q.2) | none => .stuck else .ok (none, q.2)
def KFz (Q : Option D × Fr → Prop) (q : M × Fr) : Prop := match q.1.fz with
  | some y => Q (some y, q.2)
  | none => False
@[simp] theorem KFz_eq (Q : Option D × Fr → Prop) (m : M) : KFz Q (m, fr) = match m.fz with
  | some y => Q (some y, fr)
  | none => False := rfl
def KTurn2 (C : Ctx) (elt : CE) (Q : Option D × Fr → Prop) (q : Bool × Fr) : Prop := if q.1 = true then wp (evE C elt q.2) (KFz Q) else Q (none, q.2)
@[simp] theorem KTurn2_eq (elt : CE) (Q : Option D × Fr → Prop) (t : Bool) : KTurn2 C elt Q (t, fr) = if t = true then wp (evE C elt fr) (KFz Q) else Q (none, fr) := rfl
def KTurn (C : Ctx) (cond elt : CE) (Q : Option D × Fr → Prop) (fr : Fr) : Prop := wp (evT C cond fr) (KTurn2 C elt Q)
@[simp] theorem KTurn_eq (cond elt : CE) (Q : Option D × Fr → Prop) : KTurn C cond elt Q fr = wp (evT C cond fr) (KTurn2 C elt Q) := rfl
@[simp] theorem w_turnC (tg : List Nat) (cond elt : CE) (x : D) (Q : Option D × Fr → Prop) : wp (turnC C tg cond elt x fr) Q = wp (take C tg x fr) (KTurn C cond elt Q) := wp_then (r := take C tg x fr) _ fun f1 => wp_then (r := evT C cond f1) _ fun q => by
  obtain ⟨t, f2⟩ := q
  cases t with
  | false => simp [KTurn2]
  | true =>
    refine (wp_then (r := evE C elt f2) (KFz Q) fun q => ?_).trans (by simp [KTurn2])
    obtain ⟨m, f3⟩ := q
    simp only [KFz]
    cases m.fz <;> simp
def KComp2 (tg : List Nat) (fr : Fr) (Q : M × Fr → Prop) (q : List D × Fr) : Prop := q.1.length ≤ line ∧ Q (.lst q.1, restore q.2 fr tg)
@[simp] theorem KComp2_eq (tg : List Nat) (Q : M × Fr → Prop) (ys : List D) (f1 : Fr) : KComp2 tg fr Q (ys, f1) = (ys.length ≤ line ∧ Q (.lst ys, restore f1 fr tg)) := rfl
def compW (C : Ctx) (tg : List Nat) (cond elt : CE) (fr : Fr) (Q : M × Fr → Prop) : Option (List D) → Prop
  | some ds => (tg.any C.pin = false ∧ bare fr tg = true) ∧ wp (compN tg (turnC C tg cond elt) ds fr) (KComp2 tg fr Q)
  | none => False
@[simp] theorem compW_eq (tg : List Nat) (cond elt : CE) (Q : M × Fr → Prop) (ds : List D) : compW C tg cond elt fr Q (some ds) = ((tg.any C.pin = false ∧ bare fr tg = true) ∧ wp (compN tg (turnC C tg cond elt) ds fr) (KComp2 tg fr Q)) := rfl
def KComp (C : Ctx) (tg : List Nat) (k : ItK) (cond elt : CE) (Q : M × Fr → Prop) (q : List D × Fr) : Prop := compW C tg cond elt q.2 Q (iterD k q.1)
@[simp] theorem KComp_eq (tg : List Nat) (k : ItK) (cond elt : CE) (Q : M × Fr → Prop) (os : List D) : KComp C tg k cond elt Q (os, fr) = compW C tg cond elt fr Q (iterD k os) := rfl
@[simp] theorem w_comp (tg : List Nat) (k : ItK) (it cond elt : CE) (Q : M × Fr → Prop) : wp (evE C (.comp tg k it cond elt) fr) Q = wp (evVs C it fr) (KComp C tg k cond elt Q) := wp_then (r := evVs C it fr) _ fun q => by
  obtain ⟨os, f⟩ := q
  show wp (match iterD k os with
    | none => .stuck
    | some ds => if tg.any C.pin || !bare f tg then .stuck else (compN tg (turnC C tg cond elt) ds f).bind fun (ys, fr1) => if ys.length ≤ line then .ok (.lst ys, restore fr1 f tg) else .stuck) Q = compW C tg cond elt f Q (iterD k os)
  cases iterD k os with
  | none => simp [compW]
  | some ds =>
    simp only [compW]
    by_cases h1 : tg.any C.pin = true
    · simp [h1]
    · by_cases h2 : bare f tg = true
      · simp only [h1, h2, Bool.not_true, Bool.or_self, Bool.false_eq_true, if_false, true_and]
        refine (wp_then (r := compN tg (turnC C tg cond elt) ds f) (KComp2 tg f Q) fun q => ?_).trans (by simp)
        obtain ⟨ys, f1⟩ := q
        by_cases h3 : ys.length ≤ line
        · simp [h3]
        · simp [h3]
      · simp [h1, h2]
@[simp] theorem bare_nil : bare fr [] = true := rfl
@[simp] theorem bare_cons (i : Nat) (r : List Nat) : bare fr (i :: r) = ((match getS fr i with
  | none => true
  | some (.d _) => true
  | _ => false) && bare fr r) := rfl
@[simp] theorem wipe_nil : wipeF fr [] = fr := rfl
@[simp] theorem wipe_cons (i : Nat) (r : List Nat) : wipeF fr (i :: r) = (wipeF fr r).set i none := rfl
@[simp] theorem rest_nil (f0 : Fr) : restore fr f0 [] = fr := rfl
@[simp] theorem rest_cons (f0 : Fr) (i : Nat) (r : List Nat) : restore fr f0 (i :: r) = (restore fr f0 r).set i (getS f0 i) := rfl
@[simp] theorem iter_seq_l (xs : List D) : iterD .seq [.list xs] = some xs := rfl
@[simp] theorem iter_seq_t (xs : List D) : iterD .seq [.tuple xs] = some xs := rfl
@[simp] theorem iter_zip_t (xs ys : List D) : iterD .zip2 [.tuple xs, .tuple ys] = some (zipD xs ys) := rfl
@[simp] theorem iter_zip_l (xs ys : List D) : iterD .zip2 [.list xs, .list ys] = some (zipD xs ys) := rfl
theorem iter_r1 {j : Int} (h : smallI j = true) : iterD .range1 [.int j] = some (rngD 0 j) := by simp [iterD, h]
theorem iter_r2 {i j : Int} (h : smallI i = true) (h2 : smallI j = true) : iterD .range2 [.int i, .int j] = some (rngD i j) := by simp [iterD, h, h2]
@[simp] theorem w_setS (i : Nat) (m : M) (Q : Fr → Prop) : wp (setS C fr i m) Q = (C.pin i = false ∧ Q (fr.set i (some m))) := by
  unfold setS
  cases C.pin i <;> simp
@[simp] theorem w_take1 (i : Nat) (x : D) (Q : Fr → Prop) : wp (take C [i] x fr) Q = (C.pin i = false ∧ Q (fr.set i (some (.d x)))) := w_setS C fr i (.d x) Q
@[simp] theorem w_take2 (i j : Nat) (x y : D) (Q : Fr → Prop) : wp (take C [i, j] (.tuple [x, y]) fr) Q = (C.pin i = false ∧ C.pin j = false ∧ Q ((fr.set i (some (.d x))).set j (some (.d y)))) := by
  show wp (setSs C [i, j] [x, y] fr) Q = _
  simp only [setSs, wp_bind, w_setS, wp_ok]
@[simp] theorem w_take3 (i j k : Nat) (x y z : D) (Q : Fr → Prop) : wp (take C [i, j, k] (.tuple [x, y, z]) fr) Q = (C.pin i = false ∧ C.pin j = false ∧ C.pin k = false ∧ Q (((fr.set i (some (.d x))).set j (some (.d y))).set k (some (.d z)))) := by
  show wp (setSs C [i, j, k] [x, y, z] fr) Q = _
  simp only [setSs, wp_bind, w_setS, wp_ok]
/-! tests -/
@[simp] theorem t_nil : evT C .nil fr = .ok (true, fr) := rfl
def KTAnd (C : Ctx) (b : CE) (Q : Bool × Fr → Prop) (q : Bool × Fr) : Prop := if q.1 = true then wp (evT C b q.2) Q else Q (false, q.2)
@[simp] theorem KTAnd_eq (b : CE) (Q : Bool × Fr → Prop) (t : Bool) : KTAnd C b Q (t, fr) = if t = true then wp (evT C b fr) Q else Q (false, fr) := rfl
@[simp] theorem wt_and (a b : CE) (Q : Bool × Fr → Prop) : wp (evT C (.and a b) fr) Q = wp (evT C a fr) (KTAnd C b Q) := wp_then (r := evT C a fr) _ fun q => by
  obtain ⟨t, f⟩ := q
  cases t <;> simp [KTAnd]
def KTOr (C : Ctx) (b : CE) (Q : Bool × Fr → Prop) (q : Bool × Fr) : Prop := if q.1 = true then Q (true, q.2) else wp (evT C b q.2) Q
@[simp] theorem KTOr_eq (b : CE) (Q : Bool × Fr → Prop) (t : Bool) : KTOr C b Q (t, fr) = if t = true then Q (true, fr) else wp (evT C b fr) Q := rfl
@[simp] theorem wt_or (a b : CE) (Q : Bool × Fr → Prop) : wp (evT C (.or a b) fr) Q = wp (evT C a fr) (KTOr C b Q) := wp_then (r := evT C a fr) _ fun q => by
  obtain ⟨t, f⟩ := q
  cases t <;> simp [KTOr]
def KTNot (Q : Bool × Fr → Prop) (q : Bool × Fr) : Prop := Q (!q.1, q.2)
@[simp] theorem KTNot_eq (Q : Bool × Fr → Prop) (t : Bool) : KTNot Q (t, fr) = Q (!t, fr) := rfl
@[simp] theorem wt_not (a : CE) (Q : Bool × Fr → Prop) : wp (evT C (.not a) fr) Q = wp (evT C a fr) (KTNot Q) := wp_then (r := evT C a fr) _ fun q => wp_ok _ _
def KTst (Q : Bool × Fr → Prop) (q : M × Fr) : Prop := match q.1 with
  | .d (.bool b) => Q (b, q.2)
  | _ => False
@[simp] theorem KTst_eq (Q : Bool × Fr → Prop) (t : Bool) : KTst Q (.d (.bool t), fr) = Q (t, fr) := rfl
@[simp] theorem wt_tst (e : CE) (Q : Bool × Fr → Prop) : wp (evT C (.tst e) fr) Q = wp (evE C e fr) (KTst Q) := wp_then (r := evE C e fr) _ fun q => by
  obtain ⟨m, f⟩ := q
  cases m with
  | d x => cases x <;> simp [KTst]
  | _ => simp [KTst]
/-! rows of expressions -/
@[simp] theorem v_nil : evVs C .nil fr = .ok ([], fr) := rfl
def KV2 (x : D) (Q : List D × Fr → Prop) (q : List D × Fr) : Prop := Q (x :: q.1, q.2)
@[simp] theorem KV2_eq (x : D) (Q : List D × Fr → Prop) (xs : List D) : KV2 x Q (xs, fr) = Q (x :: xs, fr) := rfl
def KV (C : Ctx) (es : CE) (Q : List D × Fr → Prop) (q : M × Fr) : Prop := match q.1.fz with
  | some x => wp (evVs C es q.2) (KV2 x Q)
  | none => False
@[simp] theorem KV_eq (es : CE) (Q : List D × Fr → Prop) (m : M) : KV C es Q (m, fr) = match m.fz with
  | some x => wp (evVs C es fr) (KV2 x Q)
  | none => False := rfl
@[simp] theorem wv_cons (e es : CE) (Q : List D × Fr → Prop) : wp (evVs C (.cons e es) fr) Q = wp (evE C e fr) (KV C es Q) := wp_then (r := evE C e fr) _ fun q => by
  obtain ⟨m, f⟩ := q
  simp only [KV]
  cases m.fz with
  | none => simp
  | some x => exact wp_then (r := evVs C es f) _ fun s => wp_ok _ _
@[simp] theorem o_nil : evOs C .nil fr = .ok ([], fr) := rfl
def KO2 (o : Opd) (Q : List Opd × Fr → Prop) (q : List Opd × Fr) : Prop := Q (o :: q.1, q.2)
@[simp] theorem KO2_eq (o : Opd) (Q : List Opd × Fr → Prop) (os : List Opd) : KO2 o Q (os, fr) = Q (o :: os, fr) := rfl
def KO (C : Ctx) (es : CE) (Q : List Opd × Fr → Prop) (q : M × Fr) : Prop := wp (evOs C es q.2) (KO2 (.v q.1) Q)
@[simp] theorem KO_eq (es : CE) (Q : List Opd × Fr → Prop) (m : M) : KO C es Q (m, fr) = wp (evOs C es fr) (KO2 (.v m) Q) := rfl
@[simp] theorem wo_bor (i : Nat) (es : CE) (Q : List Opd × Fr → Prop) : wp (evOs C (.cons (.bor i) es) fr) Q = ((getS fr i).isSome = true ∧ wp (evOs C es fr) (KO2 (.r i) Q)) := by
  have e : evOs C (.cons (.bor i) es) fr = match getS fr i with
      | some _ => (evOs C es fr).bind fun (os, fr) => .ok (.r i :: os, fr)
      | none => .stuck := rfl
  rw [e]
  cases getS fr i with
  | none => simp
  | some m =>
    simp only [Option.isSome_some, true_and]
    exact wp_then (r := evOs C es fr) (KO2 (.r i) Q) fun s => wp_ok _ _
@[simp] theorem wo_fbor (i n : Nat) (es : CE) (Q : List Opd × Fr → Prop) : wp (evOs C (.cons (.fbor i n) es) fr) Q = (((getP fr (.f i n)).isSome = true ∧ pureE es = true) ∧ wp (evOs C es fr) (KO2 (.f i n) Q)) := by
  have e : evOs C (.cons (.fbor i n) es) fr = if (getP fr (.f i n)).isSome && pureE es then (evOs C es fr).bind fun (os, fr) => .ok (.f i n :: os, fr) else .stuck := rfl
  rw [e]
  by_cases h : ((getP fr (.f i n)).isSome && pureE es) = true
  · simp only [h, if_true]
    rw [Bool.and_eq_true] at h
    simp only [h.1, h.2, and_self, true_and]
    exact wp_then (r := evOs C es fr) (KO2 (.f i n) Q) fun s => wp_ok _ _
  · rw [if_neg h]
    rw [Bool.and_eq_true] at h
    simp only [h, false_and, wp_stuck]
theorem wo_cons (e es : CE) (Q : List Opd × Fr → Prop) (h : e.isBor = none) (h2 : e.isFb = none) : wp (evOs C (.cons e es) fr) Q = wp (evE C e fr) (KO C es Q) := by
  have e : evOs C (.cons e es) fr = match e.isBor with
    | some i => match getS fr i with
      | some _ => (evOs C es fr).bind fun (os, fr) => .ok (.r i :: os, fr)
      | none => .stuck
    | none => match e.isFb with
      | some (i, n) => if (getP fr (.f i n)).isSome && pureE es then (evOs C es fr).bind fun (os, fr) => .ok (.f i n :: os, fr) else .stuck
      | none => (evE C e fr).bind fun (m, fr) => (evOs C es fr).bind fun (os, fr) => .ok (.v m :: os, fr) := rfl
  rw [e, h, h2]
  exact wp_then (r := evE C _ fr) _ fun q => wp_then (r := evOs C es q.2) _ fun s => wp_ok _ _
@[simp] theorem pure_bor (i : Nat) : pureE (.bor i) = true := rfl
@[simp] theorem pure_fbor (i n : Nat) : pureE (.fbor i n) = true := rfl
@[simp] theorem pure_cst (x : D) : pureE (.cst x) = true := rfl
@[simp] theorem pure_glob (x : Nat) : pureE (.glob x) = true := rfl
@[simp] theorem pure_op (o : Op) (es : CE) : pureE (.op o es) = pureE es := rfl
@[simp] theorem pure_nil : pureE .nil = true := rfl
@[simp] theorem pure_cons (e es : CE) : pureE (.cons e es) = (pureE e && pureE es) := rfl
end
section
variable (C : Ctx) (fr : Fr) (es : CE) (Q : List Opd × Fr → Prop)
@[simp] theorem wo_var (i : Nat) : wp (evOs C (.cons (.var i) es) fr) Q = wp (evE C (.var i) fr) (KO C es Q) := wo_cons C fr _ es Q rfl rfl
@[simp] theorem wo_mv (i : Nat) : wp (evOs C (.cons (.mv i) es) fr) Q = wp (evE C (.mv i) fr) (KO C es Q) := wo_cons C fr _ es Q rfl rfl
@[simp] theorem wo_fld (i n : Nat) : wp (evOs C (.cons (.fld i n) es) fr) Q = wp (evE C (.fld i n) fr) (KO C es Q) := wo_cons C fr _ es Q rfl rfl
@[simp] theorem wo_cst (x : D) : wp (evOs C (.cons (.cst x) es) fr) Q = wp (evE C (.cst x) fr) (KO C es Q) := wo_cons C fr _ es Q rfl rfl
@[simp] theorem wo_glob (k : Nat) : wp (evOs C (.cons (.glob k) es) fr) Q = wp (evE C (.glob k) fr) (KO C es Q) := wo_cons C fr _ es Q rfl rfl
@[simp] theorem wo_tup (a : CE) : wp (evOs C (.cons (.tup a) es) fr) Q = wp (evE C (.tup a) fr) (KO C es Q) := wo_cons C fr _ es Q rfl rfl
@[simp] theorem wo_lst (a : CE) : wp (evOs C (.cons (.lst a) es) fr) Q = wp (evE C (.lst a) fr) (KO C es Q) := wo_cons C fr _ es Q rfl rfl
@[simp] theorem wo_edict : wp (evOs C (.cons .edict es) fr) Q = wp (evE C .edict fr) (KO C es Q) := wo_cons C fr _ es Q rfl rfl
@[simp] theorem wo_op (o : Op) (a : CE) : wp (evOs C (.cons (.op o a) es) fr) Q = wp (evE C (.op o a) fr) (KO C es Q) := wo_cons C fr _ es Q rfl rfl
@[simp] theorem wo_and (a b : CE) : wp (evOs C (.cons (.and a b) es) fr) Q = wp (evE C (.and a b) fr) (KO C es Q) := wo_cons C fr _ es Q rfl rfl
@[simp] theorem wo_or (a b : CE) : wp (evOs C (.cons (.or a b) es) fr) Q = wp (evE C (.or a b) fr) (KO C es Q) := wo_cons C fr _ es Q rfl rfl
@[simp] theorem wo_not (a : CE) : wp (evOs C (.cons (.not a) es) fr) Q = wp (evE C (.not a) fr) (KO C es Q) := wo_cons C fr _ es Q rfl rfl
@[simp] theorem wo_ite (a b c : CE) : wp (evOs C (.cons (.ite a b c) es) fr) Q = wp (evE C (.ite a b c) fr) (KO C es Q) := wo_cons C fr _ es Q rfl rfl
@[simp] theorem wo_chain (o p : Op) (a b c : CE) : wp (evOs C (.cons (.chain o p a b c) es) fr) Q = wp (evE C (.chain o p a b c) fr) (KO C es Q) := wo_cons C fr _ es Q rfl rfl
@[simp] theorem wo_comp (tg : List Nat) (k : ItK) (a b c : CE) : wp (evOs C (.cons (.comp tg k a b c) es) fr) Q = wp (evE C (.comp tg k a b c) fr) (KO C es Q) := wo_cons C fr _ es Q rfl rfl
@[simp] theorem wo_dcomp (tg : List Nat) (k : ItK) (a b c d : CE) : wp (evOs C (.cons (.dcomp tg k a b c d) es) fr) Q = wp (evE C (.dcomp tg k a b c d) fr) (KO C es Q) := wo_cons C fr _ es Q rfl rfl
@[simp] theorem wo_call (f : Nat) (ps : Option (List Nat)) (a : CE) : wp (evOs C (.cons (.call f ps a) es) fr) Q = wp (evE C (.call f ps a) fr) (KO C es Q) := wo_cons C fr _ es Q rfl rfl
@[simp] theorem wo_make (c f : Nat) (a : CE) : wp (evOs C (.cons (.make c f a) es) fr) Q = wp (evE C (.make c f a) fr) (KO C es Q) := wo_cons C fr _ es Q rfl rfl
@[simp] theorem wo_meth (c f : Nat) (a : CE) : wp (evOs C (.cons (.meth c f a) es) fr) Q = wp (evE C (.meth c f a) fr) (KO C es Q) := wo_cons C fr _ es Q rfl rfl
@[simp] theorem wo_sset (a : CE) : wp (evOs C (.cons (.sset a) es) fr) Q = wp (evE C (.sset a) fr) (KO C es Q) := wo_cons C fr _ es Q rfl rfl
@[simp] theorem wo_mut (m : MOp) (i : Nat) (a : CE) : wp (evOs C (.cons (.mut m i a) es) fr) Q = wp (evE C (.mut m i a) fr) (KO C es Q) := wo_cons C fr _ es Q rfl rfl
@[simp] theorem wo_dict1 (a b : CE) : wp (evOs C (.cons (.dict1 a b) es) fr) Q = wp (evE C (.dict1 a b) fr) (KO C es Q) := wo_cons C fr _ es Q rfl rfl
end
section
variable (C : Ctx) (fr : Fr)
/-! lists changed, dicts -/
def extW (fr : Fr) (i : Nat) (Q : M × Fr → Prop) : List Opd → Option M → Prop
  | [.v (.lst ys)], some (.lst xs) => xs.length + ys.length ≤ line ∧ Q (.d .none, fr.set i (some (.lst (xs ++ ys))))
  | _, _ => False
@[simp] theorem extW_eq (i : Nat) (Q : M × Fr → Prop) (xs ys : List D) : extW fr i Q [.v (.lst ys)] (some (.lst xs)) = (xs.length + ys.length ≤ line ∧ Q (.d .none, fr.set i (some (.lst (xs ++ ys))))) := rfl
def KExt (i : Nat) (Q : M × Fr → Prop) (q : List Opd × Fr) : Prop := extW q.2 i Q q.1 (getS q.2 i)
@[simp] theorem KExt_eq (i : Nat) (Q : M × Fr → Prop) (os : List Opd) : KExt i Q (os, fr) = extW fr i Q os (getS fr i) := rfl
def isL : Option M → Bool
  | some (.lst _) => true
  | _ => false
@[simp] theorem isL_lst (xs : List D) : isL (some (.lst xs)) = true := rfl
@[simp] theorem w_extend (i : Nat) (es : CE) (Q : M × Fr → Prop) : wp (evE C (.mut .extend i es) fr) Q = (isL (getS fr i) = true ∧ wp (evOs C es fr) (KExt i Q)) := by
  have e : evE C (.mut .extend i es) fr = match getS fr i with
    | some (.lst _) => (evOs C es fr).bind fun (os, fr) => match os, getS fr i with
          | [.v (.lst ys)], some (.lst xs) => if xs.length + ys.length ≤ line then .ok (.d .none, fr.set i (some (.lst (xs ++ ys)))) else .stuck
          | _, _ => .stuck
    | _ => .stuck := by
    show (match getS fr i with | some (.lst _) => _ | _ => _) = _
    cases getS fr i with
    | none => rfl
    | some m => cases m <;> rfl
  rw [e]
  cases g : getS fr i with
  | none => simp [isL]
  | some m => cases m with
    | lst zs =>
      simp only [isL, true_and]
      refine wp_then (r := evOs C es fr) _ fun q => ?_
      obtain ⟨os, f⟩ := q
      show wp (match os, getS f i with
          | [.v (.lst ys)], some (.lst xs) => if xs.length + ys.length ≤ line then R.ok (.d .none, f.set i (some (.lst (xs ++ ys)))) else .stuck
          | _, _ => .stuck) Q = extW f i Q os (getS f i)
      unfold extW
      split
      · rename_i ys xs _
        by_cases h : xs.length + ys.length ≤ line <;> simp [h]
      · simp
    | _ => simp [isL]
def mutD (i : Nat) (fr : Fr) (Q : M × Fr → Prop) : Option (List D × D) → Prop
  | some (zs, r) => Q (.d r, fr.set i (some (.lst zs)))
  | none => False
@[simp] theorem mutD_eq (i : Nat) (Q : M × Fr → Prop) (zs : List D) (r : D) : mutD i fr Q (some (zs, r)) = Q (.d r, fr.set i (some (.lst zs))) := rfl
def mutW (m : MOp) (i : Nat) (fr : Fr) (ys : List D) (Q : M × Fr → Prop) : Option M → Prop
  | some (.lst xs) => mutD i fr Q (mutV m xs ys)
  | _ => False
@[simp] theorem mutW_append (i : Nat) (x : D) (Q : M × Fr → Prop) (xs : List D) : mutW .append i fr [x] Q (some (.lst xs)) = (xs.length < line ∧ Q (.d .none, fr.set i (some (.lst (xs ++ [x]))))) := by
  unfold mutW
  by_cases h : xs.length < line <;> simp [mutV, h, mutD]
@[simp] theorem mutW_pop0 (i : Nat) (Q : M × Fr → Prop) (xs : List D) (x : D) : mutW .pop0 i fr [] Q (some (.lst (xs ++ [x]))) = Q (.d x, fr.set i (some (.lst xs))) := by
  unfold mutW
  simp [mutV]
theorem mutW_pop1 {i : Nat} {Q : M × Fr → Prop} {xs : List D} {k : Int} {x : D} (h : smallI k = true) (h2 : 0 ≤ k) (h3 : xs[k.toNat]? = some x) : mutW .pop1 i fr [.int k] Q (some (.lst xs)) = Q (.d x, fr.set i (some (.lst (xs.eraseIdx k.toNat)))) := by
  unfold mutW
  have hl : k < xs.length := by
    obtain ⟨g, _⟩ := List.getElem?_eq_some_iff.mp h3
    omega
  have hp : place k xs.length = some k.toNat := by simp [place, h2, hl]
  simp only [mutV, h, if_true, hp, Option.bind_some, h3, Option.map_some, mutD]
def KMut (m : MOp) (i : Nat) (Q : M × Fr → Prop) (q : List D × Fr) : Prop := mutW m i q.2 q.1 Q (getS q.2 i)
@[simp] theorem KMut_eq (m : MOp) (i : Nat) (Q : M × Fr → Prop) (ys : List D) : KMut m i Q (ys, fr) = mutW m i fr ys Q (getS fr i) := rfl
theorem w_mut (m : MOp) (i : Nat) (es : CE) (Q : M × Fr → Prop) (hm : m ≠ .extend) : wp (evE C (.mut m i es) fr) Q = (isL (getS fr i) = true ∧ wp (evVs C es fr) (KMut m i Q)) := by
  have e : evE C (.mut m i es) fr = match getS fr i with
    | some (.lst _) => if m = .extend then
        (evOs C es fr).bind fun (os, fr) => match os, getS fr i with
          | [.v (.lst ys)], some (.lst xs) => if xs.length + ys.length ≤ line then .ok (.d .none, fr.set i (some (.lst (xs ++ ys)))) else .stuck
          | _, _ => .stuck
      else (evVs C es fr).bind fun (ys, fr) => match getS fr i with
        | some (.lst xs) => match mutV m xs ys with
          | some (zs, r) => .ok (.d r, fr.set i (some (.lst zs)))
          | none => .stuck
        | _ => .stuck
    | _ => .stuck := by
    cases m <;> rfl
  rw [e]
  cases g : getS fr i with
  | none => simp [isL]
  | some mm => cases mm with
    | lst zs =>
      simp only [isL, true_and, hm, if_false]
      refine wp_then (r := evVs C es fr) _ fun q => ?_
      obtain ⟨ys, f⟩ := q
      show wp (match getS f i with
        | some (.lst xs) => match mutV m xs ys with
          | some (zs, r) => R.ok (.d r, f.set i (some (.lst zs)))
          | none => .stuck
        | _ => .stuck) Q = mutW m i f ys Q (getS f i)
      unfold mutW
      split
      · rename_i xs _
        cases mutV m xs ys <;> simp [mutD]
      · simp
    | _ => simp [isL]
@[simp] theorem w_append (i : Nat) (es : CE) (Q : M × Fr → Prop) : wp (evE C (.mut .append i es) fr) Q = (isL (getS fr i) = true ∧ wp (evVs C es fr) (KMut .append i Q)) := w_mut C fr .append i es Q (by decide)
@[simp] theorem w_pop0 (i : Nat) (es : CE) (Q : M × Fr → Prop) : wp (evE C (.mut .pop0 i es) fr) Q = (isL (getS fr i) = true ∧ wp (evVs C es fr) (KMut .pop0 i Q)) := w_mut C fr .pop0 i es Q (by decide)
@[simp] theorem w_pop1 (i : Nat) (es : CE) (Q : M × Fr → Prop) : wp (evE C (.mut .pop1 i es) fr) Q = (isL (getS fr i) = true ∧ wp (evVs C es fr) (KMut .pop1 i Q)) := w_mut C fr .pop1 i es Q (by decide)
def KD2 (a : M) (Q : M × Fr → Prop) (q : M × Fr) : Prop := match a, q.1 with
  | .d a, .d b => keyKind a = 1 ∧ Q (.dic [(a, b)], q.2)
  | _, _ => False
@[simp] theorem KD2_eq (a b : D) (Q : M × Fr → Prop) : KD2 (.d a) Q (.d b, fr) = (keyKind a = 1 ∧ Q (.dic [(a, b)], fr)) := rfl
def KD1 (C : Ctx) (v : CE) (Q : M × Fr → Prop) (q : M × Fr) : Prop := wp (evE C v q.2) (KD2 q.1 Q)
@[simp] theorem KD1_eq (v : CE) (Q : M × Fr → Prop) (m : M) : KD1 C v Q (m, fr) = wp (evE C v fr) (KD2 m Q) := rfl
@[simp] theorem w_dict1 (k v : CE) (Q : M × Fr → Prop) : wp (evE C (.dict1 k v) fr) Q = wp (evE C k fr) (KD1 C v Q) := wp_then (r := evE C k fr) _ fun q => wp_then (r := evE C v q.2) _ fun s => by
  obtain ⟨a, f⟩ := q
  obtain ⟨b, g⟩ := s
  cases a with
  | d a => cases b with
    | d b =>
      show wp (if keyKind a = 1 then R.ok (M.dic [(a, b)], g) else .stuck) Q = (keyKind a = 1 ∧ Q (.dic [(a, b)], g))
      by_cases h : keyKind a = 1 <;> simp [h]
    | _ => simp [KD2]
  | _ => simp [KD2]
/-! statements -/
@[simp] theorem s_nil : exS C .nil fr = .ok (.next fr) := rfl
def KSeq (C : Ctx) (r : CS) (Q : Out → Prop) : Out → Prop
  | .next fr => wp (exS C r fr) Q
  | o => Q o
@[simp] theorem KSeq_next (r : CS) (Q : Out → Prop) : KSeq C r Q (.next fr) = wp (exS C r fr) Q := rfl
@[simp] theorem KSeq_ret (r : CS) (Q : Out → Prop) (m : M) : KSeq C r Q (.ret m fr) = Q (.ret m fr) := rfl
@[simp] theorem KSeq_brk (r : CS) (Q : Out → Prop) : KSeq C r Q (.brk fr) = Q (.brk fr) := rfl
@[simp] theorem KSeq_cnt (r : CS) (Q : Out → Prop) : KSeq C r Q (.cnt fr) = Q (.cnt fr) := rfl
@[simp] theorem w_cons (s r : CS) (Q : Out → Prop) : wp (exS C (.cons s r) fr) Q = wp (exS C s fr) (KSeq C r Q) := wp_then (r := exS C s fr) _ fun o => by
  cases o <;> simp [KSeq]
def KNext (Q : Out → Prop) (fr : Fr) : Prop := Q (.next fr)
@[simp] theorem KNext_eq (Q : Out → Prop) : KNext Q fr = Q (.next fr) := rfl
def KAsg (C : Ctx) (i : Nat) (Q : Out → Prop) (q : M × Fr) : Prop := C.pin i = false ∧ Q (.next (q.2.set i (some q.1)))
@[simp] theorem KAsg_eq (i : Nat) (Q : Out → Prop) (m : M) : KAsg C i Q (m, fr) = (C.pin i = false ∧ Q (.next (fr.set i (some m)))) := rfl
@[simp] theorem w_asg (i : Nat) (e : CE) (Q : Out → Prop) : wp (exS C (.asg i e) fr) Q = wp (evE C e fr) (KAsg C i Q) := wp_then (r := evE C e fr) _ fun q => by
  simp only [KAsg, wp_bind, w_setS, wp_ok]
def KPar (C : Ctx) (tg : List Nat) (Q : Out → Prop) (q : List Opd × Fr) : Prop := wp (setMs C tg q.1 q.2) (KNext Q)
@[simp] theorem KPar_eq (tg : List Nat) (Q : Out → Prop) (os : List Opd) : KPar C tg Q (os, fr) = wp (setMs C tg os fr) (KNext Q) := rfl
@[simp] theorem w_par (tg : List Nat) (es : CE) (Q : Out → Prop) : wp (exS C (.par tg es) fr) Q = wp (evOs C es fr) (KPar C tg Q) := wp_then (r := evOs C es fr) _ fun q => wp_then (r := setMs C tg q.1 q.2) _ fun f => wp_ok _ _
@[simp] theorem w_setMs0 (Q : Fr → Prop) : wp (setMs C [] [] fr) Q = Q fr := wp_ok _ _
def KSetMs (C : Ctx) (is : List Nat) (os : List Opd) (Q : Fr → Prop) (fr : Fr) : Prop := wp (setMs C is os fr) Q
@[simp] theorem KSetMs_eq (is : List Nat) (os : List Opd) (Q : Fr → Prop) : KSetMs C is os Q fr = wp (setMs C is os fr) Q := rfl
@[simp] theorem w_setMs (i : Nat) (is : List Nat) (m : M) (os : List Opd) (Q : Fr → Prop) : wp (setMs C (i :: is) (.v m :: os) fr) Q = (C.pin i = false ∧ wp (setMs C is os (fr.set i (some m))) Q) := by
  simp only [setMs, wp_bind, w_setS]
def KUnp (C : Ctx) (tg : List Tg) (Q : Out → Prop) (q : M × Fr) : Prop := match q.1 with
  | .d (.tuple xs) => wp (tgs C tg xs q.2) (KNext Q)
  | _ => False
@[simp] theorem KUnp_eq (tg : List Tg) (Q : Out → Prop) (xs : List D) : KUnp C tg Q (.d (.tuple xs), fr) = wp (tgs C tg xs fr) (KNext Q) := rfl
@[simp] theorem w_unp (tg : List Tg) (e : CE) (Q : Out → Prop) : wp (exS C (.unp tg e) fr) Q = wp (evE C e fr) (KUnp C tg Q) := wp_then (r := evE C e fr) _ fun q => by
  obtain ⟨m, f⟩ := q
  cases m with
  | d x => cases x with
    | tuple xs => exact wp_then (r := tgs C tg xs f) _ fun s => wp_ok _ _
    | _ => simp [KUnp]
  | _ => simp [KUnp]
@[simp] theorem w_tgs0 (Q : Fr → Prop) : wp (tgs C [] [] fr) Q = Q fr := wp_ok _ _
@[simp] theorem w_tgsv (i : Nat) (ts : List Tg) (x : D) (xs : List D) (Q : Fr → Prop) : wp (tgs C (.v i :: ts) (x :: xs) fr) Q = (C.pin i = false ∧ wp (tgs C ts xs (fr.set i (some (.d x)))) Q) := by
  simp only [tgs, wp_bind, w_setS]
def KTgs (C : Ctx) (ts : List Tg) (xs : List D) (Q : Fr → Prop) (fr : Fr) : Prop := wp (tgs C ts xs fr) Q
@[simp] theorem KTgs_eq (ts : List Tg) (xs : List D) (Q : Fr → Prop) : KTgs C ts xs Q fr = wp (tgs C ts xs fr) Q := rfl
@[simp] theorem w_tgss (p : Pl) (k : D) (ts : List Tg) (x : D) (xs : List D) (Q : Fr → Prop) : wp (tgs C (.s p k :: ts) (x :: xs) fr) Q = wp (storeP fr p k x) (KTgs C ts xs Q) := by
  simp only [tgs, wp_bind]
  rfl
def storeW (fr : Fr) (p : Pl) (Q : Fr → Prop) : Option M → Prop
  | some c => Q (setP fr p c)
  | none => False
@[simp] theorem storeW_eq (p : Pl) (Q : Fr → Prop) (c : M) : storeW fr p Q (some c) = Q (setP fr p c) := rfl
@[simp] theorem w_storeP (p : Pl) (k x : D) (Q : Fr → Prop) : wp (storeP fr p k x) Q = storeW fr p Q ((getP fr p).bind fun c => storeM c k x) := by
  unfold storeP storeW
  cases (getP fr p).bind fun c => storeM c k x <;> simp
@[simp] theorem storeM_l (xs : List D) (i : Int) (x : D) : storeM (.lst xs) (.int i) x = (place i xs.length).map fun k => .lst (xs.set k x) := rfl
theorem storeM_d {kvs : List (D × D)} {k x : D} (h : keyed k kvs = true) (h2 : kvs.length < line) : storeM (.dic kvs) k x = some (.dic (dput k x kvs)) := by simp [storeM, h, h2]
def augW (C : Ctx) (i : Nat) (fr : Fr) (Q : Out → Prop) : Option D → Prop
  | some z => C.pin i = false ∧ Q (.next (fr.set i (some (.d z))))
  | none => False
@[simp] theorem augW_eq (i : Nat) (Q : Out → Prop) (z : D) : augW C i fr Q (some z) = (C.pin i = false ∧ Q (.next (fr.set i (some (.d z))))) := rfl
def aug2 (C : Ctx) (i : Nat) (o : Op) (fr : Fr) (Q : Out → Prop) : Option M → M → Prop
  | some (.d x), .d y => augW C i fr Q (augI o x y)
  | _, _ => False
@[simp] theorem aug2_eq (i : Nat) (o : Op) (Q : Out → Prop) (x y : D) : aug2 C i o fr Q (some (.d x)) (.d y) = augW C i fr Q (augI o x y) := rfl
def KAug (C : Ctx) (i : Nat) (o : Op) (Q : Out → Prop) (q : M × Fr) : Prop := aug2 C i o q.2 Q (getS q.2 i) q.1
@[simp] theorem KAug_eq (i : Nat) (o : Op) (Q : Out → Prop) (m : M) : KAug C i o Q (m, fr) = aug2 C i o fr Q (getS fr i) m := rfl
@[simp] theorem w_aug (i : Nat) (o : Op) (e : CE) (Q : Out → Prop) : wp (exS C (.aug i o e) fr) Q = ((getS fr i).isSome = true ∧ wp (evE C e fr) (KAug C i o Q)) := by
  have e0 : exS C (.aug i o e) fr = if (getS fr i).isSome then (evE C e fr).bind fun (m, fr) => match getS fr i, m with
    | some (.d x), .d y => match augI o x y with
      | some z => (setS C fr i (.d z)).bind fun fr => .ok (.next fr)
      | none => .stuck
    | _, _ => .stuck
    else .stuck := rfl
  rw [e0]
  by_cases h : (getS fr i).isSome = true
  · simp only [h, if_true, true_and]
    refine wp_then (r := evE C e fr) _ fun q => ?_
    obtain ⟨m, f⟩ := q
    simp only [KAug]
    cases getS f i with
    | none => simp [aug2]
    | some m2 => cases m2 with
      | d x => cases m with
        | d y =>
          simp only [aug2]
          cases augI o x y with
          | none => simp [augW]
          | some z => simp [augW, wp_bind]
        | _ => simp [aug2]
      | _ => cases m <;> simp [aug2]
  · simp [h]
@[simp] theorem augI_add (i j : Int) : augI .add (.int i) (.int j) = some (.int (i + j)) := rfl
@[simp] theorem augI_sub (i j : Int) : augI .sub (.int i) (.int j) = some (.int (i - j)) := rfl
def KSto2 (p : Pl) (x : D) (Q : Out → Prop) (q : M × Fr) : Prop := match q.1 with
  | .d k => wp (storeP q.2 p k x) (KNext Q)
  | _ => False
@[simp] theorem KSto2_eq (p : Pl) (x k : D) (Q : Out → Prop) : KSto2 p x Q (.d k, fr) = wp (storeP fr p k x) (KNext Q) := rfl
def stoW (C : Ctx) (p : Pl) (k : CE) (fr : Fr) (Q : Out → Prop) : Option D → Prop
  | some x => (isCon p fr && (isV p || pureE k)) = true ∧ wp (evE C k fr) (KSto2 p x Q)
  | none => False
@[simp] theorem stoW_eq (p : Pl) (k : CE) (Q : Out → Prop) (x : D) : stoW C p k fr Q (some x) = ((isCon p fr && (isV p || pureE k)) = true ∧ wp (evE C k fr) (KSto2 p x Q)) := rfl
def KSto (C : Ctx) (p : Pl) (k : CE) (Q : Out → Prop) (q : M × Fr) : Prop := stoW C p k q.2 Q q.1.fz
@[simp] theorem KSto_eq (p : Pl) (k : CE) (Q : Out → Prop) (m : M) : KSto C p k Q (m, fr) = stoW C p k fr Q m.fz := rfl
@[simp] theorem w_sto (p : Pl) (k v : CE) (Q : Out → Prop) : wp (exS C (.sto p k v) fr) Q = wp (evE C v fr) (KSto C p k Q) := wp_then (r := evE C v fr) _ fun q => by
  obtain ⟨m, f⟩ := q
  simp only [KSto]
  cases m.fz with
  | none => simp [stoW]
  | some x =>
    simp only [stoW]
    by_cases h : (isCon p f && (isV p || pureE k)) = true
    · simp only [h, if_true, true_and]
      refine wp_then (r := evE C k f) _ fun s => ?_
      obtain ⟨m2, f2⟩ := s
      cases m2 with
      | d k => exact wp_then (r := storeP f2 p k x) _ fun s => wp_ok _ _
      | _ => simp [KSto2]
    · simp [h]
@[simp] theorem isV_v (i : Nat) : isV (.v i) = true := rfl
@[simp] theorem isV_f (i n : Nat) : isV (.f i n) = false := rfl
def conM : Option M → Bool
  | some (.lst _) => true
  | some (.dic _) => true
  | _ => false
@[simp] theorem conM_l (x : List D) : conM (some (.lst x)) = true := rfl
@[simp] theorem conM_d (x : List (D × D)) : conM (some (.dic x)) = true := rfl
@[simp] theorem isCon_eq (p : Pl) : isCon p fr = conM (getP fr p) := by
  unfold isCon conM
  cases getP fr p with
  | none => rfl
  | some m => cases m <;> rfl
def fstoW (fr : Fr) (i n : Nat) (m : M) (Q : Out → Prop) : Option M → Prop
  | some (.ins c fs) => (isFl m && decide (fs.length < 900)) = true ∧ Q (.next (fr.set i (some (.ins c (fput n m fs)))))
  | _ => False
@[simp] theorem fstoW_eq (i n c : Nat) (m : M) (fs : List (Nat × M)) (Q : Out → Prop) : fstoW fr i n m Q (some (.ins c fs)) = ((isFl m && decide (fs.length < 900)) = true ∧ Q (.next (fr.set i (some (.ins c (fput n m fs)))))) := rfl
@[simp] theorem isFl_d (x : D) : isFl (.d x) = true := rfl
@[simp] theorem isFl_l (x : List D) : isFl (.lst x) = true := rfl
@[simp] theorem isFl_c (x : List (D × D)) : isFl (.dic x) = true := rfl
def KFsto (i n : Nat) (Q : Out → Prop) (q : M × Fr) : Prop := fstoW q.2 i n q.1 Q (getS q.2 i)
@[simp] theorem KFsto_eq (i n : Nat) (Q : Out → Prop) (m : M) : KFsto i n Q (m, fr) = fstoW fr i n m Q (getS fr i) := rfl
@[simp] theorem w_fsto (i n : Nat) (e : CE) (Q : Out → Prop) : wp (exS C (.fsto i n e) fr) Q = wp (evE C e fr) (KFsto i n Q) := wp_then (r := evE C e fr) _ fun q => by
  obtain ⟨m, f⟩ := q
  simp only [KFsto]
  cases getS f i with
  | none => simp [fstoW]
  | some m2 => cases m2 with
    | ins c fs =>
      simp only [fstoW]
      by_cases h : (isFl m && decide (fs.length < 900)) = true <;> simp [h]
    | _ => simp [fstoW]
def KEx (Q : Out → Prop) (q : M × Fr) : Prop := Q (.next q.2)
@[simp] theorem KEx_eq (Q : Out → Prop) (m : M) : KEx Q (m, fr) = Q (.next fr) := rfl
@[simp] theorem w_ex (e : CE) (Q : Out → Prop) : wp (exS C (.ex e) fr) Q = wp (evE C e fr) (KEx Q) := wp_then (r := evE C e fr) _ fun q => wp_ok _ _
def KRet (Q : Out → Prop) (q : M × Fr) : Prop := Q (.ret q.1 q.2)
@[simp] theorem KRet_eq (Q : Out → Prop) (m : M) : KRet Q (m, fr) = Q (.ret m fr) := rfl
@[simp] theorem w_ret (e : CE) (Q : Out → Prop) : wp (exS C (.ret e) fr) Q = wp (evE C e fr) (KRet Q) := wp_then (r := evE C e fr) _ fun q => wp_ok _ _
@[simp] theorem s_retn : exS C .retn fr = .ok (.ret (.d .none) fr) := rfl
def KIf (C : Ctx) (a b : CS) (Q : Out → Prop) (q : Bool × Fr) : Prop := if q.1 = true then wp (exS C a q.2) Q else wp (exS C b q.2) Q
@[simp] theorem KIf_eq (a b : CS) (Q : Out → Prop) (t : Bool) : KIf C a b Q (t, fr) = if t = true then wp (exS C a fr) Q else wp (exS C b fr) Q := rfl
@[simp] theorem w_if (c : CE) (a b : CS) (Q : Out → Prop) : wp (exS C (.ite c a b) fr) Q = wp (evT C c fr) (KIf C a b Q) := wp_then (r := evT C c fr) _ fun q => by
  obtain ⟨t, f⟩ := q
  cases t <;> simp [KIf]
@[simp] theorem w_whl (c : CE) (b : CS) (Q : Out → Prop) : wp (exS C (.whl c b) fr) Q = wp (whlN (evT C c) (exS C b) C.fuel fr) Q := rfl
def turnF (C : Ctx) (tg : List Nat) (b : CS) (x : D) (fr : Fr) : R Out := (take C tg x fr).bind fun fr => exS C b fr
def KBody (C : Ctx) (b : CS) (Q : Out → Prop) (fr : Fr) : Prop := wp (exS C b fr) Q
@[simp] theorem KBody_eq (b : CS) (Q : Out → Prop) : KBody C b Q fr = wp (exS C b fr) Q := rfl
@[simp] theorem w_turnF (tg : List Nat) (b : CS) (x : D) (Q : Out → Prop) : wp (turnF C tg b x fr) Q = wp (take C tg x fr) (KBody C b Q) := wp_then (r := take C tg x fr) _ fun f => rfl
def loopW (C : Ctx) (tg : List Nat) (b : CS) (fr : Fr) (Q : Out → Prop) : Option (List D) → Prop
  | some ds => wp (forN (turnF C tg b) ds fr) Q
  | none => False
@[simp] theorem loopW_eq (tg : List Nat) (b : CS) (Q : Out → Prop) (ds : List D) : loopW C tg b fr Q (some ds) = wp (forN (turnF C tg b) ds fr) Q := rfl
def KLoop (C : Ctx) (tg : List Nat) (k : ItK) (b : CS) (Q : Out → Prop) (q : List D × Fr) : Prop := loopW C tg b q.2 Q (iterD k q.1)
@[simp] theorem KLoop_eq (tg : List Nat) (k : ItK) (b : CS) (Q : Out → Prop) (os : List D) : KLoop C tg k b Q (os, fr) = loopW C tg b fr Q (iterD k os) := rfl
@[simp] theorem w_loop (tg : List Nat) (k : ItK) (it : CE) (b : CS) (Q : Out → Prop) : wp (exS C (.loop tg k it b) fr) Q = wp (evVs C it fr) (KLoop C tg k b Q) := wp_then (r := evVs C it fr) _ fun q => by
  obtain ⟨os, f⟩ := q
  show wp (match iterD k os with
    | none => .stuck
    | some ds => forN (turnF C tg b) ds f) Q = loopW C tg b f Q (iterD k os)
  cases iterD k os <;> simp [loopW]
@[simp] theorem s_brk : exS C .brk fr = .ok (.brk fr) := rfl
@[simp] theorem s_cnt : exS C .cnt fr = .ok (.cnt fr) := rfl
@[simp] theorem s_pass : exS C .pass fr = .ok (.next fr) := rfl
@[simp] theorem s_never : exS C .never fr = .stuck := rfl
end
/-! loops -/
/-- a for loop: what holds at the items left, and how the whole ends -/
theorem for_rule {turn : D → Fr → R Out} {Q : Out → Prop} (I : List D → Fr → Prop) : ∀ {ds : List D} {fr : Fr}, I ds fr → (∀ x r fr, I (x :: r) fr → wp (turn x fr) fun o => match o with
    | .next fr => I r fr
    | .cnt fr => I r fr
    | .brk fr => Q (.next fr)
    | .ret m fr => Q (.ret m fr)) → (∀ fr, I [] fr → Q (.next fr)) → wp (forN turn ds fr) Q
  | [], fr, h, _, g => by
    rw [forN, wp_ok]
    exact g fr h
  | x :: r, fr, h, ht, g => by
    rw [forN, wp_bind]
    refine wp_mono (ht x r fr h) fun o ho => ?_
    cases o with
    | next f => exact for_rule I ho ht g
    | cnt f => exact for_rule I ho ht g
    | brk f => exact (wp_ok _ _).mpr ho
    | ret m f => exact (wp_ok _ _).mpr ho
theorem whl_rule {c : Fr → R (Bool × Fr)} {turn : Fr → R Out} {Q : Out → Prop} (I : Nat → Fr → Prop) (ht : ∀ n fr, I n fr → wp (c fr) fun q => if q.1 = true then wp (turn q.2) (fun o => match o with
    | .next fr => ∃ k, k < n ∧ I k fr
    | .cnt fr => ∃ k, k < n ∧ I k fr
    | .brk fr => Q (.next fr)
    | .ret m fr => Q (.ret m fr)) else Q (.next q.2)) : ∀ {fuel n : Nat} {fr : Fr}, I n fr → n < fuel → wp (whlN c turn fuel fr) Q
  | 0, n, fr, _, hl => absurd hl (Nat.not_lt_zero n)
  | f + 1, n, fr, h, hl => by
    rw [whlN, wp_bind]
    refine wp_mono (ht n fr h) fun q hq => ?_
    obtain ⟨t, f1⟩ := q
    cases t with
    | false => simpa using hq
    | true =>
      simp only [if_true] at hq ⊢
      rw [wp_bind]
      refine wp_mono hq fun o ho => ?_
      cases o with
      | next f => obtain ⟨k, hk, hi⟩ := ho; exact whl_rule I ht hi (by omega)
      | cnt f => obtain ⟨k, hk, hi⟩ := ho; exact whl_rule I ht hi (by omega)
      | brk f => exact (wp_ok _ _).mpr ho
      | ret m f => exact (wp_ok _ _).mpr ho
/-- a comprehension's turns: I of the items left, the values made so far -/
theorem comp_rule {own : List Nat} {turn : D → Fr → R (Option D × Fr)} {Q : List D × Fr → Prop} (I : List D → List D → Fr → Prop) (ht : ∀ x r ys fr, I (x :: r) ys fr → wp (turn x (wipeF fr own)) fun q => match q.1 with
    | some y => I r (ys ++ [y]) q.2
    | none => I r ys q.2) (g : ∀ ys fr, I [] ys fr → Q (ys, fr)) {ds : List D} {fr : Fr} (h : I ds [] fr) : wp (compN own turn ds fr) Q := by
  have key : ∀ {ds : List D} {zs : List D} {fr : Fr}, I ds zs fr → wp (compN own turn ds fr) fun q => Q (zs ++ q.1, q.2) := by
    intro ds
    induction ds with
    | nil =>
      intro zs fr h
      rw [compN, wp_ok]
      simpa using g zs fr h
    | cons x r ih =>
      intro zs fr h
      rw [compN, wp_bind]
      refine wp_mono (ht x r zs fr h) fun q hq => ?_
      obtain ⟨o, f⟩ := q
      cases o with
      | none =>
        rw [wp_bind]
        refine wp_mono (ih (zs := zs) hq) fun s hs => ?_
        simpa using hs
      | some y =>
        rw [wp_bind]
        refine wp_mono (ih (zs := zs ++ [y]) hq) fun s hs => ?_
        simpa using hs
  simpa using key (zs := []) h
theorem wipe_at (own : List Nat) (fr : Fr) (j : Nat) : (wipeF fr own)[j]? = if j ∈ own then (fr[j]?).map (fun _ => none) else fr[j]? := by
  induction own with
  | nil => simp [wipeF]
  | cons i r ih =>
    simp only [wipeF, List.getElem?_set, List.mem_cons]
    by_cases h : i = j
    · subst h
      simp only [true_or, if_true]
      have hl : (wipeF fr r).length = fr.length := by
        clear ih
        induction r with
        | nil => rfl
        | cons a r ih => simp [wipeF, ih]
      rw [hl]
      by_cases g : i < fr.length
      · simp [g]
      · simp [g]
    · simp only [h, if_false, ih, fun e : j = i => h e.symm, false_or]
      have : ¬ j = i := fun e => h e.symm
      simp [this]
theorem restore_at (own : List Nat) (a b : Fr) (hl : a.length = b.length) (j : Nat) : (restore a b own)[j]? = if j ∈ own then b[j]? else a[j]? := by
  induction own with
  | nil => simp [restore]
  | cons i r ih =>
    have hr : (restore a b r).length = a.length := by
      clear ih
      induction r with
      | nil => rfl
      | cons c r ih => simp [restore, ih]
    simp only [restore, List.getElem?_set, List.mem_cons]
    by_cases h : i = j
    · subst h
      simp only [true_or, if_true, hr, hl]
      by_cases g : i < b.length
      · simp [g, getS]
      · simp [g]
    · have : ¬ j = i := fun e => h e.symm
      simp [h, this, ih]
theorem restore_wipe {own : List Nat} {a b : Fr} (h : wipeF a own = wipeF b own) : restore a b own = b := by
  have wl : ∀ (f : Fr) (o : List Nat), (wipeF f o).length = f.length := by
    intro f o
    induction o with
    | nil => rfl
    | cons c r ih => simp [wipeF, ih]
  have hl : a.length = b.length := by rw [← wl a own, h, wl]
  refine (List.ext_getElem? fun j => ?_)
  rw [restore_at own a b hl]
  by_cases g : j ∈ own
  · simp [g]
  · have := congrArg (fun l => l[j]?) h
    simp only [wipe_at, g, if_false] at this
    simp [g, this]
/-- a comprehension whose turns change nothing but its own names: a filterMap -/
theorem comp_pure {C : Ctx} {tg : List Nat} {cond elt : CE} {fr : Fr} {ds : List D} {Q : M × Fr → Prop} (g : D → Option D) (hl : ds.length ≤ line) (ht : ∀ x ∈ ds, wp (turnC C tg cond elt x (wipeF fr tg)) fun q => q.1 = g x ∧ wipeF q.2 tg = wipeF fr tg)
    (hq : Q (.lst (ds.filterMap g), fr)) : wp (compN tg (turnC C tg cond elt) ds fr) (KComp2 tg fr Q) := by
  refine comp_rule (fun r ys f => wipeF f tg = wipeF fr tg ∧ (∀ x ∈ r, x ∈ ds) ∧ ys ++ r.filterMap g = ds.filterMap g) (fun x r ys f h => ?_) (fun ys f h => ?_) ⟨rfl, fun x h => h, by simp⟩
  · obtain ⟨h1, h2, h3⟩ := h
    rw [h1]
    refine wp_mono (ht x (h2 x (by simp))) fun q hq => ?_
    obtain ⟨o, f2⟩ := q
    obtain ⟨e1, e2⟩ := hq
    dsimp only at e1 e2
    subst e1
    cases e : g x with
    | none =>
      refine ⟨e2, fun y hy => h2 y (by simp [hy]), ?_⟩
      simpa [List.filterMap_cons, e] using h3
    | some y =>
      refine ⟨e2, fun y hy => h2 y (by simp [hy]), ?_⟩
      simpa [List.filterMap_cons, e] using h3
  · obtain ⟨h1, h2, h3⟩ := h
    simp only [List.filterMap_nil, List.append_nil] at h3
    subst h3
    refine ⟨Nat.le_trans (List.length_filterMap_le ..) hl, ?_⟩
    rw [restore_wipe h1]
    exact hq
theorem comp_map {α : Type} {C : Ctx} {tg : List Nat} {cond elt : CE} {fr : Fr} {l : List α} {f : α → D} {Q : M × Fr → Prop} (h : α → D) (hl : l.length ≤ line) (ht : ∀ a ∈ l, wp (turnC C tg cond elt (f a) (wipeF fr tg)) fun q => q.1 = some (h a) ∧ wipeF q.2 tg = wipeF fr tg)
    (hq : Q (.lst (l.map h), fr)) : wp (compN tg (turnC C tg cond elt) (l.map f) fr) (KComp2 tg fr Q) := by
  refine comp_rule (fun r ys f2 => wipeF f2 tg = wipeF fr tg ∧ ∃ m, (∀ x ∈ m, x ∈ l) ∧ r = m.map f ∧ ys ++ m.map h = l.map h) (fun x r ys f2 h1 => ?_) (fun ys f2 h1 => ?_) ⟨rfl, l, fun x h => h, rfl, by simp⟩
  · obtain ⟨h1, m, h2, h3, h4⟩ := h1
    rw [h1]
    cases m with
    | nil => cases h3
    | cons a m =>
      cases h3
      refine wp_mono (ht a (h2 a (by simp))) fun q hq => ?_
      obtain ⟨o, f3⟩ := q
      obtain ⟨e1, e2⟩ := hq
      dsimp only at e1 e2
      subst e1
      exact ⟨e2, m, fun y hy => h2 y (by simp [hy]), rfl, by simpa using h4⟩
  · obtain ⟨h1, m, h2, h3, h4⟩ := h1
    cases m with
    | cons a m => cases h3
    | nil =>
      simp only [List.map_nil, List.append_nil] at h4
      subst h4
      refine ⟨by simpa using hl, ?_⟩
      rw [restore_wipe h1]
      exact hq
theorem comp_fil {α : Type} {C : Ctx} {tg : List Nat} {cond elt : CE} {fr : Fr} {l : List α} {f : α → D} {Q : M × Fr → Prop} (p : α → Bool) (h : α → D) (hl : l.length ≤ line) (ht : ∀ a ∈ l, wp (turnC C tg cond elt (f a) (wipeF fr tg)) fun q => q.1 = (if p a = true then some (h a) else none) ∧ wipeF q.2 tg = wipeF fr tg)
    (hq : Q (.lst ((l.filter p).map h), fr)) : wp (compN tg (turnC C tg cond elt) (l.map f) fr) (KComp2 tg fr Q) := by
  refine comp_rule (fun r ys f2 => wipeF f2 tg = wipeF fr tg ∧ ∃ m, (∀ x ∈ m, x ∈ l) ∧ r = m.map f ∧ ys ++ (m.filter p).map h = (l.filter p).map h) (fun x r ys f2 h1 => ?_) (fun ys f2 h1 => ?_) ⟨rfl, l, fun x h => h, rfl, by simp⟩
  · obtain ⟨h1, m, h2, h3, h4⟩ := h1
    rw [h1]
    cases m with
    | nil => cases h3
    | cons a m =>
      cases h3
      refine wp_mono (ht a (h2 a (by simp))) fun q hq => ?_
      obtain ⟨o, f3⟩ := q
      obtain ⟨e1, e2⟩ := hq
      dsimp only at e1 e2
      subst e1
      by_cases g : p a = true
      · simp only [g, if_true]
        exact ⟨e2, m, fun y hy => h2 y (by simp [hy]), rfl, by simpa [List.filter_cons, g] using h4⟩
      · simp only [g, if_false]
        exact ⟨e2, m, fun y hy => h2 y (by simp [hy]), rfl, by simpa [List.filter_cons, g] using h4⟩
  · obtain ⟨h1, m, h2, h3, h4⟩ := h1
    cases m with
    | cons a m => cases h3
    | nil =>
      simp only [List.filter_nil, List.map_nil, List.append_nil] at h4
      subst h4
      refine ⟨Nat.le_trans (by simpa using List.length_filter_le p l) hl, ?_⟩
      rw [restore_wipe h1]
      exact hq
theorem comp_mapD {C : Ctx} {tg : List Nat} {cond elt : CE} {fr : Fr} {l : List D} {Q : M × Fr → Prop} (h : D → D) (hl : l.length ≤ line) (ht : ∀ a ∈ l, wp (turnC C tg cond elt a (wipeF fr tg)) fun q => q.1 = some (h a) ∧ wipeF q.2 tg = wipeF fr tg)
    (hq : Q (.lst (l.map h), fr)) : wp (compN tg (turnC C tg cond elt) l fr) (KComp2 tg fr Q) := by
  have := comp_map (f := id) h hl ht hq
  rwa [List.map_id] at this
theorem comp_filD {C : Ctx} {tg : List Nat} {cond elt : CE} {fr : Fr} {l : List D} {Q : M × Fr → Prop} (p : D → Bool) (h : D → D) (hl : l.length ≤ line) (ht : ∀ a ∈ l, wp (turnC C tg cond elt a (wipeF fr tg)) fun q => q.1 = (if p a = true then some (h a) else none) ∧ wipeF q.2 tg = wipeF fr tg)
    (hq : Q (.lst ((l.filter p).map h), fr)) : wp (compN tg (turnC C tg cond elt) l fr) (KComp2 tg fr Q) := by
  have := comp_fil (f := id) p h hl ht hq
  rwa [List.map_id] at this
end Mn
/-! Plain part 2: the operations on data, as rules. -/
namespace Mn
open PySem
abbrev tI (w : List Int) : D := .tuple (w.map .int)
/-! plain, depth -/
theorem plainAll_iff (xs : List D) : PyData.plainAll xs = true ↔ ∀ x ∈ xs, x.plain = true := by
  induction xs with
  | nil => simp [PyData.plainAll]
  | cons x r ih => simp [PyData.plainAll, ih]
theorem depthAll_le (xs : List D) (n : Nat) : PyData.depthAll xs ≤ n ↔ ∀ x ∈ xs, PyData.depth x ≤ n := by
  induction xs with
  | nil => simp [PyData.depthAll]
  | cons x r ih => simp [PyData.depthAll, ih, Nat.max_le]
def okn (n : Nat) (x : D) : Prop := x.plain = true ∧ PyData.depth x ≤ n
theorem okn_mono {n m : Nat} {x : D} (h : okn n x) (l : n ≤ m) : okn m x := ⟨h.1, Nat.le_trans h.2 l⟩
theorem okd_iff {x : D} : okd x = true ↔ okn 40 x := by simp [okd, okn]
theorem okd_of {n : Nat} {x : D} (h : okn n x) (l : n ≤ 40) : okd x = true := okd_iff.mpr (okn_mono h l)
theorem okn_tuple {n : Nat} {xs : List D} : okn (n + 1) (.tuple xs) ↔ ∀ x ∈ xs, okn n x := by
  simp only [okn, PyData.plain, plainAll_iff, PyData.depth, Nat.add_le_add_iff_right, depthAll_le]
  exact ⟨fun h x hx => ⟨h.1 x hx, h.2 x hx⟩, fun h => ⟨fun x hx => (h x hx).1, fun x hx => (h x hx).2⟩⟩
theorem okn_list {n : Nat} {xs : List D} : okn (n + 1) (.list xs) ↔ ∀ x ∈ xs, okn n x := by
  simp only [okn, PyData.plain, plainAll_iff, PyData.depth, Nat.add_le_add_iff_right, depthAll_le]
  exact ⟨fun h x hx => ⟨h.1 x hx, h.2 x hx⟩, fun h => ⟨fun x hx => (h x hx).1, fun x hx => (h x hx).2⟩⟩
@[simp] theorem okn_int (n : Nat) (i : Int) : okn n (.int i) := ⟨rfl, Nat.zero_le _⟩
@[simp] theorem okn_bool (n : Nat) (i : Bool) : okn n (.bool i) := ⟨rfl, Nat.zero_le _⟩
@[simp] theorem okn_str (n : Nat) (i : Str) : okn n (.str i) := ⟨rfl, Nat.zero_le _⟩
@[simp] theorem okn_none (n : Nat) : okn n .none := ⟨rfl, Nat.zero_le _⟩
theorem okn_ints (n : Nat) (w : List Int) : okn (n + 1) (tI w) := okn_tuple.mpr fun x hx => by
  obtain ⟨i, _, rfl⟩ := List.mem_map.mp hx
  simp
theorem okn_tups (n : Nat) (w : List (List Int)) : okn (n + 2) (.tuple (w.map tI)) := okn_tuple.mpr fun x hx => by
  obtain ⟨i, _, rfl⟩ := List.mem_map.mp hx
  exact okn_ints n i
@[simp] theorem okd_int (i : Int) : okd (.int i) = true := rfl
@[simp] theorem okd_bool (i : Bool) : okd (.bool i) = true := rfl
@[simp] theorem okd_str (i : Str) : okd (.str i) = true := rfl
@[simp] theorem okd_none : okd .none = true := rfl
@[simp] theorem okd_nil : okd (.tuple []) = true := rfl
@[simp] theorem okd_lnil : okd (.list []) = true := rfl
@[simp] theorem okd_ints (w : List Int) : okd (.tuple (w.map .int)) = true := okd_of (okn_ints 0 w) (by decide)
@[simp] theorem okd_tups (w : List (List Int)) : okd (.tuple (w.map tI)) = true := okd_of (okn_tups 0 w) (by decide)
theorem okds_eq (xs : List D) : okds xs = okd (.tuple xs) := rfl
@[simp] theorem okds_nil : okds [] = true := rfl
@[simp] theorem okds_ints (w : List Int) : okds (w.map .int) = true := okd_ints w
@[simp] theorem okds_tups (w : List (List Int)) : okds (w.map tI) = true := okd_tups w
theorem okd_list (xs : List D) : okd (.list xs) = okd (.tuple xs) := by simp [okd, PyData.plain, PyData.depth]
@[simp] theorem okd_lints (w : List Int) : okd (.list (w.map .int)) = true := by rw [okd_list]; exact okd_ints w
@[simp] theorem okd_ltups (w : List (List Int)) : okd (.list (w.map tI)) = true := by rw [okd_list]; exact okd_tups w
/-- data of tuples, lists of at most n things each, at most k deep -/
def Nice (n : Nat) : Nat → D → Prop
  | 0, x => PyData.plain x = true ∧ PyData.depth x = 0
  | k + 1, x => (PyData.plain x = true ∧ PyData.depth x = 0) ∨ ∃ xs : List D, (x = .tuple xs ∨ x = .list xs) ∧ xs.length ≤ n ∧ ∀ y ∈ xs, Nice n k y
theorem Nice.atom {n k : Nat} {x : D} (h : PyData.plain x = true) (h2 : PyData.depth x = 0) : Nice n k x := by cases k with
  | zero => exact ⟨h, h2⟩
  | succ k => exact .inl ⟨h, h2⟩
theorem Nice.succ {n : Nat} : ∀ {k : Nat} {x : D}, Nice n k x → Nice n (k + 1) x
  | 0, x, h => .inl h
  | k + 1, x, h => by
    rcases h with h | ⟨xs, h1, h2, h3⟩
    · exact .inl h
    · exact .inr ⟨xs, h1, h2, fun y hy => (h3 y hy).succ⟩
theorem Nice.mono {n k m : Nat} {x : D} (h : Nice n k x) (l : k ≤ m) : Nice n m x := by
  induction l with
  | refl => exact h
  | step _ ih => exact ih.succ
theorem Nice.wide {n m : Nat} (l : n ≤ m) : ∀ {k : Nat} {x : D}, Nice n k x → Nice m k x
  | 0, x, h => h
  | k + 1, x, h => by
    rcases h with h | ⟨xs, h1, h2, h3⟩
    · exact .inl h
    · exact .inr ⟨xs, h1, Nat.le_trans h2 l, fun y hy => (h3 y hy).wide l⟩
theorem Nice.okn {n : Nat} : ∀ {k : Nat} {x : D}, Nice n k x → okn k x
  | 0, x, h => ⟨h.1, by rw [h.2]; exact Nat.le_refl _⟩
  | k + 1, x, h => by
    rcases h with h | ⟨xs, h1 | h1, h2, h3⟩
    · exact ⟨h.1, by rw [h.2]; exact Nat.zero_le _⟩
    · subst h1
      exact okn_tuple.mpr fun y hy => (h3 y hy).okn
    · subst h1
      exact okn_list.mpr fun y hy => (h3 y hy).okn
theorem Nice.plain {n k : Nat} {x : D} (h : Nice n k x) : x.plain = true := h.okn.1
theorem Nice.okd {n k : Nat} {x : D} (h : Nice n k x) (l : k ≤ 40) : okd x = true := okd_of h.okn l
theorem nice_tuple {n k : Nat} {xs : List D} : Nice n (k + 1) (.tuple xs) ↔ xs.length ≤ n ∧ ∀ y ∈ xs, Nice n k y := by
  constructor
  · rintro (h | ⟨ys, h1 | h1, h2, h3⟩)
    · exact absurd h.2 (by simp [PyData.depth])
    · cases h1; exact ⟨h2, h3⟩
    · cases h1
  · exact fun h => .inr ⟨xs, .inl rfl, h⟩
theorem nice_list {n k : Nat} {xs : List D} : Nice n (k + 1) (.list xs) ↔ xs.length ≤ n ∧ ∀ y ∈ xs, Nice n k y := by
  constructor
  · rintro (h | ⟨ys, h1 | h1, h2, h3⟩)
    · exact absurd h.2 (by simp [PyData.depth])
    · cases h1
    · cases h1; exact ⟨h2, h3⟩
  · exact fun h => .inr ⟨xs, .inr rfl, h⟩
@[simp] theorem nice_int (n k : Nat) (i : Int) : Nice n k (.int i) := .atom rfl rfl
@[simp] theorem nice_bool (n k : Nat) (i : Bool) : Nice n k (.bool i) := .atom rfl rfl
@[simp] theorem nice_str (n k : Nat) (i : Str) : Nice n k (.str i) := .atom rfl rfl
@[simp] theorem nice_none (n k : Nat) : Nice n k .none := .atom rfl rfl
theorem nice_ints {n k : Nat} {w : List Int} (h : w.length ≤ n) : Nice n (k + 1) (tI w) := nice_tuple.mpr ⟨by simpa using h, fun x hx => by
  obtain ⟨i, _, rfl⟩ := List.mem_map.mp hx
  simp⟩
theorem nice_tups {n k : Nat} {w : List (List Int)} (h : w.length ≤ n) (h2 : ∀ t ∈ w, t.length ≤ n) : Nice n (k + 2) (.tuple (w.map tI)) := nice_tuple.mpr ⟨by simpa using h, fun x hx => by
  obtain ⟨i, hi, rfl⟩ := List.mem_map.mp hx
  exact nice_ints (h2 i hi)⟩
abbrev Ok (x : D) : Prop := Nice 1000000 40 x
theorem Ok.sub {xs : List D} (h : Ok (.tuple xs)) : ∀ x ∈ xs, Ok x := fun x hx => ((nice_tuple.mp h).2 x hx).mono (by decide)
theorem Ok.subl {xs : List D} (h : Ok (.list xs)) : ∀ x ∈ xs, Ok x := fun x hx => ((nice_list.mp h).2 x hx).mono (by decide)
theorem Ok.len {xs : List D} (h : Ok (.tuple xs)) : xs.length ≤ line := Nat.le_trans (nice_tuple.mp h).1 (by decide)
/-! equality -/
@[simp] theorem eqv_int (i j : Int) : PyData.eqv (.int i) (.int j) = decide (i = j) := by simp only [PyData.eqv]; rfl
@[simp] theorem eqv_str (i j : Str) : PyData.eqv (.str i) (.str j) = (i == j) := by simp [PyData.eqv]
@[simp] theorem eqv_bool (i j : Bool) : PyData.eqv (.bool i) (.bool j) = (i == j) := by simp [PyData.eqv]
@[simp] theorem eqv_tup (xs ys : List D) : PyData.eqv (.tuple xs) (.tuple ys) = PyData.eqvAll xs ys := by simp [PyData.eqv]
@[simp] theorem eqv_lst (xs ys : List D) : PyData.eqv (.list xs) (.list ys) = PyData.eqvAll xs ys := by simp [PyData.eqv]
@[simp] theorem eqvAll_nil : PyData.eqvAll [] [] = true := by simp [PyData.eqvAll]
@[simp] theorem eqvAll_cn (x : D) (xs : List D) : PyData.eqvAll (x :: xs) [] = false := by simp [PyData.eqvAll]
@[simp] theorem eqvAll_nc (x : D) (xs : List D) : PyData.eqvAll [] (x :: xs) = false := by simp [PyData.eqvAll]
@[simp] theorem eqvAll_cons (x y : D) (xs ys : List D) : PyData.eqvAll (x :: xs) (y :: ys) = (PyData.eqv x y && PyData.eqvAll xs ys) := by rw [PyData.eqvAll]
theorem eqvAll_map {α : Type} [DecidableEq α] {f : α → D} (hf : ∀ a b, PyData.eqv (f a) (f b) = decide (a = b)) : ∀ xs ys : List α, PyData.eqvAll (xs.map f) (ys.map f) = decide (xs = ys)
  | [], [] => by simp
  | [], y :: ys => by simp
  | x :: xs, [] => by simp
  | x :: xs, y :: ys => by simp [hf, eqvAll_map hf xs ys]
@[simp] theorem eqvAll_ints (xs ys : List Int) : PyData.eqvAll (xs.map .int) (ys.map .int) = decide (xs = ys) := eqvAll_map eqv_int xs ys
theorem eqv_tI (xs ys : List Int) : PyData.eqv (tI xs) (tI ys) = decide (xs = ys) := by simp
@[simp] theorem eqvAll_tups (xs ys : List (List Int)) : PyData.eqvAll (xs.map tI) (ys.map tI) = decide (xs = ys) := eqvAll_map eqv_tI xs ys
@[simp] theorem eqvAll_nilr (xs : List D) : PyData.eqvAll xs [] = xs.isEmpty := by cases xs <;> simp
@[simp] theorem any_int (w : List Int) (i : Int) : ((w.map PyData.int).any fun y => PyData.eqv y (.int i)) = decide (i ∈ w) := by
  induction w with
  | nil => simp
  | cons a r ih =>
    simp only [List.map_cons, List.any_cons, ih, eqv_int, List.mem_cons, Bool.decide_or]
    congr 1
    simp [eq_comm]
theorem any_tI (w : List (List Int)) (i : List Int) : ((w.map tI).any fun y => PyData.eqv y (tI i)) = decide (i ∈ w) := by
  induction w with
  | nil => simp
  | cons a r ih =>
    simp only [List.map_cons, List.any_cons, ih, eqv_tI, List.mem_cons, Bool.decide_or]
    congr 1
    simp [eq_comm]
/-! order -/
theorem lt_tI (a b : List Int) : PySem.W.dataLt (tI a) (tI b) = decide (a < b) := by
  show PySem.W.dataLt (.tuple _) (.tuple _) = _
  rw [PySem.W.dataLt_tuple]
  exact PySem.W.dataLt_ints a b
theorem alike_ints : ∀ a b : List Int, PySem.W.alikeAll (a.map .int) (b.map .int) = true
  | [], _ => by simp [PySem.W.alikeAll]
  | _ :: _, [] => by simp [PySem.W.alikeAll]
  | x :: xs, y :: ys => by simp [PySem.W.alikeAll, PySem.W.alike, alike_ints xs ys]
@[simp] theorem ltD_int (i j : Int) : ltD (.int i) (.int j) = some (decide (i < j)) := rfl
@[simp] theorem ltD_tI (a b : List Int) : ltD (.tuple (a.map .int)) (.tuple (b.map .int)) = some (decide (a < b)) := by
  have h : PySem.W.alike (tI a) (tI b) = true := by simp [PySem.W.alike, alike_ints]
  have h2 := lt_tI a b
  simp only [tI] at h h2
  simp [ltD, h, h2, PyData.isNoneType]
/-! operations -/
variable {fr : Fr} {Q : M × Fr → Prop}
@[simp] theorem q_lt_int (i j : Int) : opQ .lt [.int i, .int j] fr Q = Q (.d (.bool (decide (i < j))), fr) := opQ_of (by simp [opsem, ltS, bl])
@[simp] theorem q_gt_int (i j : Int) : opQ .gt [.int i, .int j] fr Q = Q (.d (.bool (decide (j < i))), fr) := opQ_of (by simp [opsem, gtS, bl])
@[simp] theorem q_le_int (i j : Int) : opQ .le [.int i, .int j] fr Q = Q (.d (.bool (decide (i ≤ j))), fr) := opQ_of (by simp [opsem, leS, bl, Int.not_lt, ← decide_not])
@[simp] theorem q_ge_int (i j : Int) : opQ .ge [.int i, .int j] fr Q = Q (.d (.bool (decide (j ≤ i))), fr) := opQ_of (by simp [opsem, geS, bl, Int.not_lt, ← decide_not])
@[simp] theorem q_lt_tI (i j : List Int) : opQ .lt [.tuple (i.map .int), .tuple (j.map .int)] fr Q = Q (.d (.bool (decide (i < j))), fr) := opQ_of (by simp [opsem, ltS, bl])
theorem q_eq {a b : D} (h : okd a = true) (h2 : okd b = true) : opQ .eq [a, b] fr Q = Q (.d (.bool (PyData.eqv a b)), fr) := opQ_of (by simp [opsem, eqS, bl, h, h2])
theorem q_ne {a b : D} (h : okd a = true) (h2 : okd b = true) : opQ .ne [a, b] fr Q = Q (.d (.bool (!PyData.eqv a b)), fr) := opQ_of (by simp [opsem, neS, bl, h, h2])
@[simp] theorem q_eq_int (i j : Int) : opQ .eq [.int i, .int j] fr Q = Q (.d (.bool (decide (i = j))), fr) := by rw [q_eq rfl rfl, eqv_int]
@[simp] theorem q_ne_int (i j : Int) : opQ .ne [.int i, .int j] fr Q = Q (.d (.bool (decide (i ≠ j))), fr) := by rw [q_ne rfl rfl, eqv_int]; simp
@[simp] theorem q_eq_str (i j : Str) : opQ .eq [.str i, .str j] fr Q = Q (.d (.bool (i == j)), fr) := by rw [q_eq rfl rfl, eqv_str]
@[simp] theorem q_ne_str (i j : Str) : opQ .ne [.str i, .str j] fr Q = Q (.d (.bool (!(i == j))), fr) := by rw [q_ne rfl rfl, eqv_str]
@[simp] theorem q_eq_bool (i j : Bool) : opQ .eq [.bool i, .bool j] fr Q = Q (.d (.bool (i == j)), fr) := by rw [q_eq rfl rfl, eqv_bool]
@[simp] theorem q_ne_bool (i j : Bool) : opQ .ne [.bool i, .bool j] fr Q = Q (.d (.bool (!(i == j))), fr) := by rw [q_ne rfl rfl, eqv_bool]
@[simp] theorem q_eq_tI (i j : List Int) : opQ .eq [.tuple (i.map .int), .tuple (j.map .int)] fr Q = Q (.d (.bool (decide (i = j))), fr) := by rw [q_eq (okd_ints i) (okd_ints j)]; simp
@[simp] theorem q_ne_tI (i j : List Int) : opQ .ne [.tuple (i.map .int), .tuple (j.map .int)] fr Q = Q (.d (.bool (decide (i ≠ j))), fr) := by rw [q_ne (okd_ints i) (okd_ints j)]; simp
@[simp] theorem q_eq_tInil (i : List Int) : opQ .eq [.tuple (i.map .int), .tuple []] fr Q = Q (.d (.bool (decide (i = []))), fr) := q_eq_tI i []
@[simp] theorem q_ne_tInil (i : List Int) : opQ .ne [.tuple (i.map .int), .tuple []] fr Q = Q (.d (.bool (decide (i ≠ []))), fr) := q_ne_tI i []
theorem q_in_t {x : D} {xs : List D} (h : okd x = true) (h2 : okds xs = true) : opQ .in_ [x, .tuple xs] fr Q = Q (.d (.bool (xs.any fun y => PyData.eqv y x)), fr) := opQ_of (by simp [opsem, inS, bl, h, h2])
theorem q_in_l {x : D} {xs : List D} (h : okd x = true) (h2 : okds xs = true) : opQ .in_ [x, .list xs] fr Q = Q (.d (.bool (xs.any fun y => PyData.eqv y x)), fr) := opQ_of (by simp [opsem, inS, bl, h, h2])
theorem q_nin_t {x : D} {xs : List D} (h : okd x = true) (h2 : okds xs = true) : opQ .nin [x, .tuple xs] fr Q = Q (.d (.bool (!xs.any fun y => PyData.eqv y x)), fr) := opQ_of (by simp [opsem, ninS, bl, h, h2])
theorem q_nin_l {x : D} {xs : List D} (h : okd x = true) (h2 : okds xs = true) : opQ .nin [x, .list xs] fr Q = Q (.d (.bool (!xs.any fun y => PyData.eqv y x)), fr) := opQ_of (by simp [opsem, ninS, bl, h, h2])
@[simp] theorem q_in_int (i : Int) (w : List Int) : opQ .in_ [.int i, .tuple (w.map .int)] fr Q = Q (.d (.bool (decide (i ∈ w))), fr) := by rw [q_in_t rfl (okds_ints w), any_int]
@[simp] theorem q_nin_int (i : Int) (w : List Int) : opQ .nin [.int i, .tuple (w.map .int)] fr Q = Q (.d (.bool (decide (i ∉ w))), fr) := by rw [q_nin_t rfl (okds_ints w), any_int]; simp
@[simp] theorem q_in_intl (i : Int) (w : List Int) : opQ .in_ [.int i, .list (w.map .int)] fr Q = Q (.d (.bool (decide (i ∈ w))), fr) := by rw [q_in_l rfl (okds_ints w), any_int]
@[simp] theorem q_nin_intl (i : Int) (w : List Int) : opQ .nin [.int i, .list (w.map .int)] fr Q = Q (.d (.bool (decide (i ∉ w))), fr) := by rw [q_nin_l rfl (okds_ints w), any_int]; simp
@[simp] theorem q_in_tI (i : List Int) (w : List (List Int)) : opQ .in_ [.tuple (i.map .int), .tuple (w.map tI)] fr Q = Q (.d (.bool (decide (i ∈ w))), fr) := by rw [q_in_t (okd_ints i) (okds_tups w), any_tI]
@[simp] theorem q_nin_tI (i : List Int) (w : List (List Int)) : opQ .nin [.tuple (i.map .int), .tuple (w.map tI)] fr Q = Q (.d (.bool (decide (i ∉ w))), fr) := by rw [q_nin_t (okd_ints i) (okds_tups w), any_tI]; simp
@[simp] theorem q_in_tIl (i : List Int) (w : List (List Int)) : opQ .in_ [.tuple (i.map .int), .list (w.map tI)] fr Q = Q (.d (.bool (decide (i ∈ w))), fr) := by rw [q_in_l (okd_ints i) (okds_tups w), any_tI]
@[simp] theorem q_nin_tIl (i : List Int) (w : List (List Int)) : opQ .nin [.tuple (i.map .int), .list (w.map tI)] fr Q = Q (.d (.bool (decide (i ∉ w))), fr) := by rw [q_nin_l (okd_ints i) (okds_tups w), any_tI]; simp
@[simp] theorem q_len_t (xs : List D) : opQ .len [.tuple xs] fr Q = Q (.d (.int xs.length), fr) := opQ_of rfl
@[simp] theorem q_len_l (xs : List D) : opQ .len [.list xs] fr Q = Q (.d (.int xs.length), fr) := opQ_of rfl
@[simp] theorem bools_map (bs : List Bool) : bools (bs.map .bool) = some bs := by
  induction bs with
  | nil => rfl
  | cons b r ih => simp [bools, ih]
@[simp] theorem q_all (bs : List Bool) : opQ .all [.list (bs.map .bool)] fr Q = Q (.d (.bool (bs.all id)), fr) := opQ_of (by simp [opsem, allS, bl])
@[simp] theorem bools_mapf {α : Type} (l : List α) (b : α → Bool) : bools (l.map fun a => .bool (b a)) = some (l.map b) := by
  induction l with
  | nil => rfl
  | cons x r ih => simp [bools, ih]
@[simp] theorem q_allf {α : Type} (l : List α) (b : α → Bool) : opQ .all [.list (l.map fun a => .bool (b a))] fr Q = Q (.d (.bool (l.all b)), fr) := opQ_of (by
  simp only [opsem, allS, bools_mapf, Option.bind_some, bl, List.all_map]
  rfl)
@[simp] theorem q_anyf {α : Type} (l : List α) (b : α → Bool) : opQ .any [.list (l.map fun a => .bool (b a))] fr Q = Q (.d (.bool (l.any b)), fr) := opQ_of (by
  simp only [opsem, anyS, bools_mapf, Option.bind_some, bl, List.any_map]
  rfl)
@[simp] theorem q_any (bs : List Bool) : opQ .any [.list (bs.map .bool)] fr Q = Q (.d (.bool (bs.any id)), fr) := opQ_of (by simp [opsem, anyS, bl])
@[simp] theorem q_tuple_l (xs : List D) : opQ .tuple [.list xs] fr Q = Q (.d (.tuple xs), fr) := opQ_of rfl
@[simp] theorem q_tuple_t (xs : List D) : opQ .tuple [.tuple xs] fr Q = Q (.d (.tuple xs), fr) := opQ_of rfl
@[simp] theorem q_list_l (xs : List D) : opQ .list [.list xs] fr Q = Q (.lst xs, fr) := opQ_of rfl
@[simp] theorem q_list_t (xs : List D) : opQ .list [.tuple xs] fr Q = Q (.lst xs, fr) := opQ_of rfl
@[simp] theorem q_lrev (xs : List D) : opQ .lrev [.list xs] fr Q = Q (.lst xs.reverse, fr) := opQ_of rfl
@[simp] theorem q_rev_l (xs : List D) : opQ .rev [.list xs] fr Q = Q (.lst xs.reverse, fr) := opQ_of rfl
@[simp] theorem q_rev_t (xs : List D) : opQ .rev [.tuple xs] fr Q = Q (.d (.tuple xs.reverse), fr) := opQ_of rfl
@[simp] theorem q_add_int (i j : Int) : opQ .add [.int i, .int j] fr Q = Q (.d (.int (i + j)), fr) := opQ_of rfl
@[simp] theorem q_sub_int (i j : Int) : opQ .sub [.int i, .int j] fr Q = Q (.d (.int (i - j)), fr) := opQ_of rfl
@[simp] theorem q_neg_int (i : Int) : opQ .neg [.int i] fr Q = Q (.d (.int (-i)), fr) := opQ_of rfl
@[simp] theorem q_abs_int (i : Int) : opQ .abs [.int i] fr Q = Q (.d (.int (if i < 0 then -i else i)), fr) := opQ_of rfl
@[simp] theorem q_int_int (i : Int) : opQ .int [.int i] fr Q = Q (.d (.int i), fr) := opQ_of rfl
@[simp] theorem q_int_bool (b : Bool) : opQ .int [.bool b] fr Q = Q (.d (.int (if b = true then 1 else 0)), fr) := opQ_of rfl
@[simp] theorem q_bool_int (i : Int) : opQ .bool [.int i] fr Q = Q (.d (.bool (i != 0)), fr) := opQ_of rfl
@[simp] theorem q_bool_bool (i : Bool) : opQ .bool [.bool i] fr Q = Q (.d (.bool i), fr) := opQ_of rfl
@[simp] theorem q_max2 (i j : Int) : opQ .max2 [.int i, .int j] fr Q = Q (.d (.int (if j > i then j else i)), fr) := opQ_of rfl
@[simp] theorem q_min2 (i j : Int) : opQ .min2 [.int i, .int j] fr Q = Q (.d (.int (if j < i then j else i)), fr) := opQ_of rfl
theorem q_add_t {xs ys : List D} (h : xs.length + ys.length ≤ line) : opQ .add [.tuple xs, .tuple ys] fr Q = Q (.d (.tuple (xs ++ ys)), fr) := opQ_of (by simp [opsem, addS, h])
theorem q_add_l {xs ys : List D} (h : xs.length + ys.length ≤ line) : opQ .add [.list xs, .list ys] fr Q = Q (.lst (xs ++ ys), fr) := opQ_of (by simp [opsem, addS, h])
theorem q_add_lm {α : Type} {f : α → D} {xs ys : List α} (h : xs.length + ys.length ≤ line) : opQ .add [.list (xs.map f), .list (ys.map f)] fr Q = Q (.lst ((xs ++ ys).map f), fr) := by rw [q_add_l (by simpa using h), List.map_append]
theorem q_add_tm {α : Type} {f : α → D} {xs ys : List α} (h : xs.length + ys.length ≤ line) : opQ .add [.tuple (xs.map f), .tuple (ys.map f)] fr Q = Q (.d (.tuple ((xs ++ ys).map f)), fr) := by rw [q_add_t (by simpa using h), List.map_append]
theorem q_mul {i j : Int} (h : mulOk i j = true) : opQ .mul [.int i, .int j] fr Q = Q (.d (.int (i * j)), fr) := opQ_of (by simp [opsem, mulS, h])
theorem mulOk_l {i j : Int} (h : -(2 ^ 64) < i) (h2 : i < 2 ^ 64) : mulOk i j = true := by simp only [mulOk, decide_eq_true h, decide_eq_true h2, Bool.and_self, Bool.true_or]
theorem mulOk_r {i j : Int} (h : -(2 ^ 64) < j) (h2 : j < 2 ^ 64) : mulOk i j = true := by simp only [mulOk, decide_eq_true h, decide_eq_true h2, Bool.and_self, Bool.or_true]
theorem q_fdiv {i j : Int} (h : 0 < j) (h2 : j < 1073741824) : opQ .fdiv [.int i, .int j] fr Q = Q (.d (.int (i / j)), fr) := opQ_of (by simp [opsem, fdivS, h, h2])
theorem q_mod {i j : Int} (h : 0 < j) : opQ .mod [.int i, .int j] fr Q = Q (.d (.int (i % j)), fr) := opQ_of (by simp [opsem, modS, h])
theorem q_divmod {i j : Int} (h : 0 < j) (h2 : j < 1073741824) : opQ .divmod [.int i, .int j] fr Q = Q (.d (.tuple [.int (i / j), .int (i % j)]), fr) := opQ_of (by simp [opsem, divmodS, h, h2])
theorem q_pow {i j : Int} (h : 0 ≤ j) (h2 : j ≤ 1000) (h3 : i.natAbs < 2 ^ 64) : opQ .pow [.int i, .int j] fr Q = Q (.d (.int (i ^ j.toNat)), fr) := opQ_of (by simp [opsem, powS, h, h2, h3])
theorem q_isi {ts : List Ty} {x : D} (h : isDictD x = false) : opQ (.isi ts) [x] fr Q = Q (.d (.bool (ts.any fun t => t.is x)), fr) := opQ_of (by simp [opsem, isiS, h, bl])
@[simp] theorem is_int_int (i : Int) : Ty.is .int (.int i) = true := rfl
@[simp] theorem is_int_bool (i : Bool) : Ty.is .int (.bool i) = true := rfl
@[simp] theorem is_int_str (i : Str) : Ty.is .int (.str i) = false := rfl
@[simp] theorem is_int_tuple (i : List D) : Ty.is .int (.tuple i) = false := rfl
@[simp] theorem is_int_list (i : List D) : Ty.is .int (.list i) = false := rfl
@[simp] theorem is_int_none  : Ty.is .int (.none) = false := rfl
@[simp] theorem is_bool_int (i : Int) : Ty.is .bool (.int i) = false := rfl
@[simp] theorem is_bool_bool (i : Bool) : Ty.is .bool (.bool i) = true := rfl
@[simp] theorem is_bool_str (i : Str) : Ty.is .bool (.str i) = false := rfl
@[simp] theorem is_bool_tuple (i : List D) : Ty.is .bool (.tuple i) = false := rfl
@[simp] theorem is_bool_list (i : List D) : Ty.is .bool (.list i) = false := rfl
@[simp] theorem is_bool_none  : Ty.is .bool (.none) = false := rfl
@[simp] theorem is_str_int (i : Int) : Ty.is .str (.int i) = false := rfl
@[simp] theorem is_str_bool (i : Bool) : Ty.is .str (.bool i) = false := rfl
@[simp] theorem is_str_str (i : Str) : Ty.is .str (.str i) = true := rfl
@[simp] theorem is_str_tuple (i : List D) : Ty.is .str (.tuple i) = false := rfl
@[simp] theorem is_str_list (i : List D) : Ty.is .str (.list i) = false := rfl
@[simp] theorem is_str_none  : Ty.is .str (.none) = false := rfl
@[simp] theorem is_tuple_int (i : Int) : Ty.is .tuple (.int i) = false := rfl
@[simp] theorem is_tuple_bool (i : Bool) : Ty.is .tuple (.bool i) = false := rfl
@[simp] theorem is_tuple_str (i : Str) : Ty.is .tuple (.str i) = false := rfl
@[simp] theorem is_tuple_tuple (i : List D) : Ty.is .tuple (.tuple i) = true := rfl
@[simp] theorem is_tuple_list (i : List D) : Ty.is .tuple (.list i) = false := rfl
@[simp] theorem is_tuple_none  : Ty.is .tuple (.none) = false := rfl
@[simp] theorem is_list_int (i : Int) : Ty.is .list (.int i) = false := rfl
@[simp] theorem is_list_bool (i : Bool) : Ty.is .list (.bool i) = false := rfl
@[simp] theorem is_list_str (i : Str) : Ty.is .list (.str i) = false := rfl
@[simp] theorem is_list_tuple (i : List D) : Ty.is .list (.tuple i) = false := rfl
@[simp] theorem is_list_list (i : List D) : Ty.is .list (.list i) = true := rfl
@[simp] theorem is_list_none  : Ty.is .list (.none) = false := rfl
@[simp] theorem is_none_int (i : Int) : Ty.is .none_ (.int i) = false := rfl
@[simp] theorem is_none_bool (i : Bool) : Ty.is .none_ (.bool i) = false := rfl
@[simp] theorem is_none_str (i : Str) : Ty.is .none_ (.str i) = false := rfl
@[simp] theorem is_none_tuple (i : List D) : Ty.is .none_ (.tuple i) = false := rfl
@[simp] theorem is_none_list (i : List D) : Ty.is .none_ (.list i) = false := rfl
@[simp] theorem is_none_none  : Ty.is .none_ (.none) = true := rfl
@[simp] theorem q_isi_int (ts : List Ty) (i : Int) : opQ (.isi ts) [.int i] fr Q = Q (.d (.bool (ts.any fun t => t.is (.int i))), fr) := q_isi rfl
@[simp] theorem q_isi_bool (ts : List Ty) (i : Bool) : opQ (.isi ts) [.bool i] fr Q = Q (.d (.bool (ts.any fun t => t.is (.bool i))), fr) := q_isi rfl
@[simp] theorem q_isi_str (ts : List Ty) (i : Str) : opQ (.isi ts) [.str i] fr Q = Q (.d (.bool (ts.any fun t => t.is (.str i))), fr) := q_isi rfl
@[simp] theorem q_isi_tuple (ts : List Ty) (i : List D) : opQ (.isi ts) [.tuple i] fr Q = Q (.d (.bool (ts.any fun t => t.is (.tuple i))), fr) := q_isi rfl
@[simp] theorem q_isi_list (ts : List Ty) (i : List D) : opQ (.isi ts) [.list i] fr Q = Q (.d (.bool (ts.any fun t => t.is (.list i))), fr) := q_isi rfl
@[simp] theorem q_isi_none (ts : List Ty)  : opQ (.isi ts) [.none] fr Q = Q (.d (.bool (ts.any fun t => t.is (.none))), fr) := q_isi rfl
theorem notDict {x : D} (h : x.plain = true) : isDictD x = false := by cases x <;> first | rfl | (exact absurd h (by simp [PyData.plain]))
theorem q_idx_t {xs : List D} {i : Int} {x : D} (h : 0 ≤ i) (h2 : xs[i.toNat]? = some x) : opQ .idx [.tuple xs, .int i] fr Q = Q (.d x, fr) := opQ_of (by
  have hl : i < xs.length := by
    obtain ⟨g, _⟩ := List.getElem?_eq_some_iff.mp h2
    omega
  have hp : place i xs.length = some i.toNat := by simp [place, h, hl]
  simp only [opsem, idxS, hp, Option.bind_some, h2, Option.map_some])
theorem q_idx_l {xs : List D} {i : Int} {x : D} (h : 0 ≤ i) (h2 : xs[i.toNat]? = some x) : opQ .idx [.list xs, .int i] fr Q = Q (.d x, fr) := opQ_of (by
  have hl : i < xs.length := by
    obtain ⟨g, _⟩ := List.getElem?_eq_some_iff.mp h2
    omega
  have hp : place i xs.length = some i.toNat := by simp [place, h, hl]
  simp only [opsem, idxS, hp, Option.bind_some, h2, Option.map_some])
@[simp] theorem q_idx0 (x : D) (xs : List D) : opQ .idx [.tuple (x :: xs), .int 0] fr Q = Q (.d x, fr) := q_idx_t (by decide) rfl
@[simp] theorem q_idx1 (x y : D) (xs : List D) : opQ .idx [.tuple (x :: y :: xs), .int 1] fr Q = Q (.d y, fr) := q_idx_t (by decide) rfl
@[simp] theorem q_idx2 (x y z : D) (xs : List D) : opQ .idx [.tuple (x :: y :: z :: xs), .int 2] fr Q = Q (.d z, fr) := q_idx_t (by decide) rfl
@[simp] theorem q_idx3 (x y z u : D) (xs : List D) : opQ .idx [.tuple (x :: y :: z :: u :: xs), .int 3] fr Q = Q (.d u, fr) := q_idx_t (by decide) rfl
@[simp] theorem q_idx0l (x : D) (xs : List D) : opQ .idx [.list (x :: xs), .int 0] fr Q = Q (.d x, fr) := q_idx_l (by decide) rfl
@[simp] theorem q_idx1l (x y : D) (xs : List D) : opQ .idx [.list (x :: y :: xs), .int 1] fr Q = Q (.d y, fr) := q_idx_l (by decide) rfl
@[simp] theorem q_idx2l (x y z : D) (xs : List D) : opQ .idx [.list (x :: y :: z :: xs), .int 2] fr Q = Q (.d z, fr) := q_idx_l (by decide) rfl
@[simp] theorem q_idx0_tI (y : Int) (s : List Int) : opQ .idx [tI (y :: s), .int 0] fr Q = Q (.d (.int y), fr) := q_idx_t (by decide) rfl
theorem cut_from {α : Type} (xs : List α) (k : Nat) : cut xs (some (k : Int)) none = xs.drop k := by
  have h : ¬ ((k : Int) < 0) := by omega
  simp only [cut, cutAt, h, if_false, Int.toNat_natCast]
  by_cases g : k ≤ xs.length
  · rw [Nat.min_eq_left g]
    exact (List.take_of_length_le (by simp))
  · rw [Nat.min_eq_right (by omega)]
    simp [List.drop_eq_nil_of_le (show xs.length ≤ k by omega)]
theorem cut_to {α : Type} (xs : List α) (k : Nat) : cut xs none (some (k : Int)) = xs.take k := by
  have h : ¬ ((k : Int) < 0) := by omega
  simp only [cut, cutAt, h, if_false, Int.toNat_natCast, List.drop_zero, Nat.sub_zero]
  by_cases g : k ≤ xs.length
  · rw [Nat.min_eq_left g]
  · rw [Nat.min_eq_right (by omega), List.take_of_length_le (by omega), List.take_of_length_le (by omega)]
theorem q_from_t (xs : List D) (k : Nat) : opQ (.slice true false) [.tuple xs, .int (k : Int)] fr Q = Q (.d (.tuple (xs.drop k)), fr) := opQ_of (by simp [opsem, sliceS, cut_from])
theorem q_from_l (xs : List D) (k : Nat) : opQ (.slice true false) [.list xs, .int (k : Int)] fr Q = Q (.lst (xs.drop k), fr) := opQ_of (by simp [opsem, sliceS, cut_from])
theorem q_to_t (xs : List D) (k : Nat) : opQ (.slice false true) [.tuple xs, .int (k : Int)] fr Q = Q (.d (.tuple (xs.take k)), fr) := opQ_of (by simp [opsem, sliceS, cut_to])
theorem q_to_l (xs : List D) (k : Nat) : opQ (.slice false true) [.list xs, .int (k : Int)] fr Q = Q (.lst (xs.take k), fr) := opQ_of (by simp [opsem, sliceS, cut_to])
theorem q_toI_t {xs : List D} {k : Int} (h : 0 ≤ k) : opQ (.slice false true) [.tuple xs, .int k] fr Q = Q (.d (.tuple (xs.take k.toNat)), fr) := by
  have := q_to_t (fr := fr) (Q := Q) xs k.toNat
  rwa [Int.toNat_of_nonneg h] at this
theorem q_toI_l {xs : List D} {k : Int} (h : 0 ≤ k) : opQ (.slice false true) [.list xs, .int k] fr Q = Q (.lst (xs.take k.toNat), fr) := by
  have := q_to_l (fr := fr) (Q := Q) xs k.toNat
  rwa [Int.toNat_of_nonneg h] at this
theorem q_fromI_t {xs : List D} {k : Int} (h : 0 ≤ k) : opQ (.slice true false) [.tuple xs, .int k] fr Q = Q (.d (.tuple (xs.drop k.toNat)), fr) := by
  have := q_from_t (fr := fr) (Q := Q) xs k.toNat
  rwa [Int.toNat_of_nonneg h] at this
theorem q_fromI_l {xs : List D} {k : Int} (h : 0 ≤ k) : opQ (.slice true false) [.list xs, .int k] fr Q = Q (.lst (xs.drop k.toNat), fr) := by
  have := q_from_l (fr := fr) (Q := Q) xs k.toNat
  rwa [Int.toNat_of_nonneg h] at this
theorem q_toI_lm {α : Type} {f : α → D} {xs : List α} {k : Int} (h : 0 ≤ k) : opQ (.slice false true) [.list (xs.map f), .int k] fr Q = Q (.lst ((xs.take k.toNat).map f), fr) := by rw [q_toI_l h, List.map_take]
theorem q_ne_lnil {xs : List D} (h : okd (.list xs) = true) : opQ .ne [.list xs, .list []] fr Q = Q (.d (.bool (!xs.isEmpty)), fr) := by rw [q_ne h rfl, eqv_lst, eqvAll_nilr]
theorem q_eq_lnil {xs : List D} (h : okd (.list xs) = true) : opQ .eq [.list xs, .list []] fr Q = Q (.d (.bool xs.isEmpty), fr) := by rw [q_eq h rfl, eqv_lst, eqvAll_nilr]
theorem q_ne_tnil {xs : List D} (h : okd (.tuple xs) = true) : opQ .ne [.tuple xs, .tuple []] fr Q = Q (.d (.bool (!xs.isEmpty)), fr) := by rw [q_ne h rfl, eqv_tup, eqvAll_nilr]
theorem okd_lm {α : Type} {f : α → D} (hf : ∀ a, okn 39 (f a)) (l : List α) : okd (.list (l.map f)) = true := okd_iff.mpr (okn_list.mpr fun x hx => by
  obtain ⟨a, _, rfl⟩ := (List.mem_map.mp hx)
  exact hf a)
/-- a, a + 1, .. below b -/
def rng (a b : Int) : List Int := (List.range (b - a).toNat).map fun (k : Nat) => a + (k : Int)
theorem rngD_eq (a b : Int) : rngD a b = (rng a b).map .int := by simp [rngD, rng]
theorem mem_rng {a b x : Int} : x ∈ rng a b ↔ a ≤ x ∧ x < b := by
  simp only [rng, List.mem_map, List.mem_range]
  constructor
  · rintro ⟨k, h, rfl⟩
    omega
  · intro h
    exact ⟨(x - a).toNat, by omega, by omega⟩
theorem ris_rng (a b : Int) : (rng a b).Pairwise (· < ·) := by
  unfold rng
  rw [List.pairwise_map]
  exact List.Pairwise.imp (fun h => by omega) (List.pairwise_lt_range (n := (b - a).toNat))
@[simp] theorem len_rng (a b : Int) : (rng a b).length = (b - a).toNat := by simp [rng]
theorem iter_r1' {j : Int} (h : smallI j = true) : iterD .range1 [.int j] = some ((rng 0 j).map .int) := by rw [iter_r1 h, rngD_eq]
theorem iter_r2' {i j : Int} (h : smallI i = true) (h2 : smallI j = true) : iterD .range2 [.int i, .int j] = some ((rng i j).map .int) := by rw [iter_r2 h h2, rngD_eq]
@[simp] theorem q_from1 (xs : List D) : opQ (.slice true false) [.tuple xs, .int 1] fr Q = Q (.d (.tuple (xs.drop 1)), fr) := q_from_t xs 1
@[simp] theorem q_from1l (xs : List D) : opQ (.slice true false) [.list xs, .int 1] fr Q = Q (.lst (xs.drop 1), fr) := q_from_l xs 1
@[simp] theorem q_to1 (xs : List D) : opQ (.slice false true) [.tuple xs, .int 1] fr Q = Q (.d (.tuple (xs.take 1)), fr) := q_to_t xs 1
@[simp] theorem q_to2 (xs : List D) : opQ (.slice false true) [.tuple xs, .int 2] fr Q = Q (.d (.tuple (xs.take 2)), fr) := q_to_t xs 2
@[simp] theorem q_to3 (xs : List D) : opQ (.slice false true) [.tuple xs, .int 3] fr Q = Q (.d (.tuple (xs.take 3)), fr) := q_to_t xs 3
theorem q_rng1 {j : Int} (h : smallI j = true) (h2 : j ≤ 1000000) : opQ .rng1 [.int j] fr Q = Q (.lst (rngD 0 j), fr) := opQ_of (by simp [opsem, rng1S, h, h2])
theorem q_rng2 {i j : Int} (h : smallI i = true) (h1 : smallI j = true) (h2 : j - i ≤ 1000000) : opQ .rng2 [.int i, .int j] fr Q = Q (.lst (rngD i j), fr) := opQ_of (by simp [opsem, rng2S, h, h1, h2])
theorem q_trng1 {j : Int} (h : smallI j = true) (h2 : j ≤ 1000000) : opQ .trng1 [.int j] fr Q = Q (.d (.tuple (rngD 0 j)), fr) := opQ_of (by simp [opsem, trng1S, h, h2])
theorem smallOf {j : Int} (h : -1000000000 ≤ j) (h2 : j ≤ 1000000000) : smallI j = true := by
  simp [smallI]
  omega
/-! sorted -/
def sortI (l : List Int) : List Int := l.mergeSort fun a b => decide (a ≤ b)
theorem le_all_i (a b : Int) : PySem.W.dataLe false (fun x => x) (.int a) (.int b) = decide (a ≤ b) := by
  have := congrFun (congrFun (PySem.W.dataLe_int (β := Int) fun x => x) a) b
  exact this
theorem le_all_t (a b : List Int) : PySem.W.dataLe false (fun x => x) (tI a) (tI b) = decide (a ≤ b) := by
  show (!PySem.W.dataLt (tI b) (tI a)) = _
  rw [lt_tI]
  by_cases h : b < a
  · have h' : ¬ a ≤ b := fun r => List.not_lt.mpr r h
    simp [h, h']
  · have h' : a ≤ b := List.not_lt.mp h
    simp [h, h']
theorem sortD_ints (l : List Int) : sortD (l.map .int) = (sortI l).map .int := (List.map_mergeSort fun a _ b _ => (le_all_i a b).symm).symm
theorem sortD_tups (l : List (List Int)) : sortD (l.map tI) = (sortT l).map tI := (List.map_mergeSort fun a _ b _ => (le_all_t a b).symm).symm
theorem sortable_ints (l : List Int) : sortable (l.map .int) = true := by
  simp [sortable, isIntD]
theorem sortable_tups {l : List (List Int)} (h : [] ∉ l) : sortable (l.map tI) = true := by
  have : (l.map tI).all intTup = true := by
    simp only [List.all_eq_true, List.mem_map, forall_exists_index, and_imp, forall_apply_eq_imp_iff₂]
    intro a ha
    cases a with
    | nil => exact absurd ha h
    | cons x r =>
      show (isIntD (.int x) && (r.map PyData.int).all isIntD) = true
      simp [isIntD]
  simp [sortable, this]
@[simp] theorem q_sorted_li (l : List Int) : opQ .sorted [.list (l.map .int)] fr Q = Q (.lst ((sortI l).map .int), fr) := opQ_of (by simp [opsem, sortedS, sortable_ints, sortD_ints])
@[simp] theorem q_sorted_ti (l : List Int) : opQ .sorted [.tuple (l.map .int)] fr Q = Q (.lst ((sortI l).map .int), fr) := opQ_of (by simp [opsem, sortedS, sortable_ints, sortD_ints])
theorem q_sorted_lt {l : List (List Int)} (h : [] ∉ l) : opQ .sorted [.list (l.map tI)] fr Q = Q (.lst ((sortT l).map tI), fr) := opQ_of (by simp only [opsem, sortedS, sortable_tups h, Bool.true_or, sortD_tups, if_true])
theorem q_sorted_tt {l : List (List Int)} (h : [] ∉ l) : opQ .sorted [.tuple (l.map tI)] fr Q = Q (.lst ((sortT l).map tI), fr) := opQ_of (by simp only [opsem, sortedS, sortable_tups h, Bool.true_or, sortD_tups, if_true])
theorem perm_sortI (l : List Int) : (sortI l).Perm l := List.mergeSort_perm ..
theorem headE_tups (r : List (List Int)) : headE (([] :: r).map tI) = true := by
  show (r.map tI).all intTup0 = true
  simp [intTup0, isIntD]
theorem q_sorted_lh {l r : List (List Int)} (h : l = [] :: r) : opQ .sorted [.list (l.map tI)] fr Q = Q (.lst ((sortT l).map tI), fr) := opQ_of (by
  subst h
  simp only [opsem, sortedS, headE_tups, Bool.or_true, sortD_tups, if_true])
@[simp] theorem intsD_ints : ∀ w : List Int, intsD (w.map .int) = some w
  | [] => rfl
  | a :: r => by simp [intsD, intsD_ints r]
@[simp] theorem tupsD_tups : ∀ l : List (List Int), tupsD (l.map tI) = some l
  | [] => rfl
  | a :: r => by
    have := tupsD_tups r
    rw [List.map_cons]
    simp only [tupsD, intsD_ints, Option.bind_some, this, Option.map_some]
theorem q_sset {l : List (List Int)} (h : setOk l = true) : opQ .sset [.list (l.map tI)] fr Q = Q (.lst ((sortT (ddp l)).map tI), fr) := opQ_of (by
  simp only [opsem, ssetS, ssetB, tupsD_tups, Option.bind_some, h, if_true])
theorem q_tset {l : List (List Int)} (h : setOk l = true) : opQ .sset [.tuple (l.map tI)] fr Q = Q (.lst ((sortT (ddp l)).map tI), fr) := opQ_of (by
  simp only [opsem, ssetS, ssetB, tupsD_tups, Option.bind_some, h, if_true])
theorem q_times {xs : List D} {j : Int} (h : 0 ≤ j) (h2 : j ≤ 1000) (h3 : xs.length * j.toNat ≤ line) : opQ .mul [.list xs, .int j] fr Q = Q (.lst (List.replicate j.toNat xs).flatten, fr) := opQ_of (by simp [opsem, mulS, h, h2, h3])
@[simp] theorem mem_sortI (l : List Int) (x : Int) : x ∈ sortI l ↔ x ∈ l := (perm_sortI l).mem_iff
theorem ord_sortI (l : List Int) : (sortI l).Pairwise (· ≤ ·) := by
  have := List.pairwise_mergeSort (le := fun a b : Int => decide (a ≤ b)) (by simp; omega) (by simp; omega) l
  simpa [sortI] using this
theorem ris_sortI {l : List Int} (h : l.Nodup) : (sortI l).Pairwise (· < ·) := by
  have h2 : (sortI l).Nodup := (perm_sortI l).nodup_iff.mpr h
  refine List.Pairwise.imp₂ (fun a b h1 h2 => ?_) (ord_sortI l) h2
  omega
theorem risI_ext {l m : List Int} (hl : l.Pairwise (· < ·)) (hm : m.Pairwise (· < ·)) (h : ∀ x, x ∈ l ↔ x ∈ m) : l = m := ris_ext (fun a => by omega) (fun a b => by omega) hl hm h
theorem nodup_ris {α : Type} [LT α] (irr : ∀ a : α, ¬ a < a) {l : List α} (h : l.Pairwise (· < ·)) : l.Nodup := h.imp fun h e => by subst e; exact irr _ h
theorem nodup_risI {l : List Int} (h : l.Pairwise (· < ·)) : l.Nodup := nodup_ris (fun a => by omega) h
theorem nodup_risT {l : List (List Int)} (h : l.Pairwise (· < ·)) : l.Nodup := nodup_ris (fun a => List.lt_irrefl a) h
/-! neighbours -/
def adj {α : Type} : List α → List (α × α)
  | a :: b :: r => (a, b) :: adj (b :: r)
  | _ => []
theorem zip_adj {α : Type} (f : α → D) : ∀ l : List α, zipD (l.map f) (l.map f).tail = (adj l).map fun p => .tuple [f p.1, f p.2]
  | [] => rfl
  | [a] => rfl
  | a :: b :: r => by
    have := zip_adj f (b :: r)
    simp only [List.map_cons, List.tail_cons] at this ⊢
    rw [zipD, this]
    rfl
theorem adj_len {α : Type} : ∀ l : List α, (adj l).length ≤ l.length
  | [] => by simp [adj]
  | [a] => by simp [adj]
  | a :: b :: r => by
    have := adj_len (b :: r)
    simp only [adj, List.length_cons] at this ⊢
    omega
theorem adj_all {α : Type} [LT α] (tr : ∀ a b c : α, a < b → b < c → a < c) : ∀ l : List α, (∀ p ∈ adj l, p.1 < p.2) ↔ l.Pairwise (· < ·)
  | [] => by simp [adj]
  | [a] => by simp [adj]
  | a :: b :: r => by
    have ih := adj_all tr (b :: r)
    simp only [adj, List.mem_cons, forall_eq_or_imp, ih]
    constructor
    · rintro ⟨h1, h2⟩
      refine List.pairwise_cons.mpr ⟨fun x hx => ?_, h2⟩
      rcases (List.mem_cons.mp hx) with e | hx
      · subst e; exact h1
      · exact tr _ _ _ h1 ((List.pairwise_cons.mp h2).1 x hx)
    · intro h
      exact ⟨(List.pairwise_cons.mp h).1 b (by simp), (List.pairwise_cons.mp h).2⟩
theorem adjI (l : List Int) : (∀ p ∈ adj l, p.1 < p.2) ↔ l.Pairwise (· < ·) := adj_all (fun a b c => by omega) l
theorem adjT (l : List (List Int)) : (∀ p ∈ adj l, p.1 < p.2) ↔ l.Pairwise (· < ·) := adj_all (fun a b c => List.lt_trans) l
theorem adjI' (l : List Int) : (∀ a b, (a, b) ∈ adj l → a < b) ↔ l.Pairwise (· < ·) := ⟨fun h => (adjI l).mp fun p hp => h p.1 p.2 hp, fun h a b hp => (adjI l).mpr h (a, b) hp⟩
theorem adjT' (l : List (List Int)) : (∀ a b, (a, b) ∈ adj l → a < b) ↔ l.Pairwise (· < ·) := ⟨fun h => (adjT l).mp fun p hp => h p.1 p.2 hp, fun h a b hp => (adjT l).mpr h (a, b) hp⟩
end Mn
namespace Mn
open PySem
/-- is_integer
 -/
def g_is_integer : Fn := ⟨1, 1, [], (.cons (.ret (.and (.op (.isi [.int]) (.cons (.bor 0) .nil)) (.not (.op (.isi [.bool]) (.cons (.bor 0) .nil)))))
    .nil)⟩
/-- is_count
 -/
def g_is_count (i_is_integer : Nat) : Fn := ⟨1, 1, [], (.cons (.ret (.and (.call i_is_integer none (.cons (.bor 0) .nil)) (.op .ge (.cons (.bor 0) (.cons (.cst (.int 0)) .nil)))))
    .nil)⟩
/-- is_below
 -/
def g_is_below (i_is_count : Nat) : Fn := ⟨2, 2, [], (.cons (.ret (.and (.call i_is_count none (.cons (.bor 0) .nil)) (.op .lt (.cons (.bor 0) (.cons (.bor 1) .nil)))))
    .nil)⟩
/-- is_row
 -/
def g_is_row : Fn := ⟨2, 2, [], (.cons (.ret (.and (.op (.isi [.tuple]) (.cons (.bor 0) .nil)) (.op .eq (.cons (.op .len (.cons (.bor 0) .nil)) (.cons (.bor 1) .nil)))))
    .nil)⟩
/-- is_rising
 -/
def g_is_rising : Fn := ⟨1, 3, [], (.cons (.ret (.op .all (.cons (.comp [1, 2] .zip2 (.cons (.var 0) (.cons (.op (.slice true false) (.cons (.bor 0) (.cons (.cst (.int 1)) .nil))) .nil)) .nil (.op .lt (.cons (.bor 1) (.cons (.bor 2) .nil)))) .nil)))
    .nil)⟩
/-- is_number
 -/
def g_is_number (g_LEAST_THINGS : Nat) (g_MOST_THINGS : Nat) (i_is_integer : Nat) : Fn := ⟨1, 1, [], (.cons (.ret (.and (.call i_is_integer none (.cons (.bor 0) .nil)) (.chain .le .le (.glob g_LEAST_THINGS) (.var 0) (.glob g_MOST_THINGS))))
    .nil)⟩
/-- is_triple_in
 -/
def g_is_triple_in (i_is_rising : Nat) (i_is_below : Nat) (i_is_row : Nat) : Fn := ⟨2, 3, [], (.cons (.ret (.and (.call i_is_row none (.cons (.bor 1) (.cons (.cst (.int 3)) .nil))) (.and (.op .all (.cons (.comp [2] .seq (.cons (.var 1) .nil) .nil (.call i_is_below none (.cons (.bor 2) (.cons (.bor 0) .nil)))) .nil)) (.call i_is_rising none (.cons (.bor 1) .nil)))))
    .nil)⟩
/-- is_lot_of
 -/
def g_is_lot_of (i_is_rising : Nat) (i_is_triple_in : Nat) (i_is_number : Nat) (g_LOT : Nat) (i_is_row : Nat) : Fn := ⟨1, 2, [], (.cons (.ite (.or (.not (.tst (.call i_is_row none (.cons (.bor 0) (.cons (.cst (.int 3)) .nil))))) (.or (.not (.tst (.op (.isi [.str]) (.cons (.op .idx (.cons (.bor 0) (.cons (.cst (.int 0)) .nil))) .nil)))) (.or (.tst (.op .ne (.cons (.op .idx (.cons (.bor 0) (.cons (.cst (.int 0)) .nil))) (.cons (.glob g_LOT) .nil)))) (.not (.tst (.call i_is_number none (.cons (.op .idx (.cons (.bor 0) (.cons (.cst (.int 1)) .nil))) .nil))))))) (.cons (.ret (.cst (.bool false)))
    .nil) .nil)
    (.cons (.ite (.or (.not (.tst (.op (.isi [.tuple]) (.cons (.op .idx (.cons (.bor 0) (.cons (.cst (.int 2)) .nil))) .nil)))) (.not (.tst (.op .all (.cons (.comp [1] .seq (.cons (.op .idx (.cons (.bor 0) (.cons (.cst (.int 2)) .nil))) .nil) .nil (.call i_is_triple_in none (.cons (.op .idx (.cons (.bor 0) (.cons (.cst (.int 1)) .nil))) (.cons (.bor 1) .nil)))) .nil))))) (.cons (.ret (.cst (.bool false)))
    .nil) .nil)
    (.cons (.ret (.call i_is_rising none (.cons (.op .idx (.cons (.bor 0) (.cons (.cst (.int 2)) .nil))) .nil)))
    .nil)))⟩
/-- want_lot
 -/
def g_want_lot (i_is_lot_of : Nat) : Fn := ⟨1, 1, [], (.cons (.ite (.not (.tst (.call i_is_lot_of none (.cons (.bor 0) .nil)))) (.cons .never
    .nil) .nil)
    (.cons (.ret (.mv 0))
    .nil))⟩
/-- sum_of
 -/
def g_sum_of : Fn := ⟨2, 4, [], (.cons (.asg 2 (.comp [3] .seq (.cons (.var 0) .nil) (.tst (.op .nin (.cons (.bor 3) (.cons (.bor 1) .nil)))) (.var 3)))
    (.cons (.ret (.op .tuple (.cons (.op .sorted (.cons (.op .add (.cons (.bor 2) (.cons (.comp [3] .seq (.cons (.var 1) .nil) (.tst (.op .nin (.cons (.bor 3) (.cons (.bor 0) .nil)))) (.var 3)) .nil))) .nil)) .nil)))
    .nil))⟩
/-- sum_of_all
 -/
def g_sum_of_all (i_sum_of : Nat) : Fn := ⟨1, 3, [], (.cons (.asg 1 (.tup .nil))
    (.cons (.loop [2] .seq (.cons (.var 0) .nil) (.cons (.asg 1 (.call i_sum_of none (.cons (.bor 1) (.cons (.bor 2) .nil))))
    .nil))
    (.cons (.ret (.mv 1))
    .nil)))⟩
/-- is_even_of
 -/
def g_is_even_of : Fn := ⟨2, 4, [], (.cons (.ret (.op .all (.cons (.comp [2] .seq (.cons (.op .idx (.cons (.bor 0) (.cons (.cst (.int 2)) .nil))) .nil) .nil (.op .eq (.cons (.op .mod (.cons (.op .len (.cons (.comp [3] .seq (.cons (.var 2) .nil) (.tst (.op .in_ (.cons (.bor 3) (.cons (.bor 1) .nil)))) (.var 3)) .nil)) (.cons (.cst (.int 2)) .nil))) (.cons (.cst (.int 0)) .nil)))) .nil)))
    .nil)⟩
/-- Leads.__init__
 -/
def g_Leads_init (d_own_rows : Nat) (i_sum_of : Nat) (c_Leads : Nat) (i_Leads_rest_of : Nat) : Fn := ⟨2, 5, [0], (.cons (.fsto 0 d_own_rows .edict)
    (.cons (.loop [2] .seq (.cons (.op .idx (.cons (.bor 1) (.cons (.cst (.int 2)) .nil))) .nil) (.cons (.unp [.v 3, .v 4] (.meth c_Leads i_Leads_rest_of (.cons (.bor 0) (.cons (.bor 2) .nil))))
    (.cons (.ite (.tst (.op .ne (.cons (.bor 3) (.cons (.tup .nil) .nil)))) (.cons (.sto (.f 0 d_own_rows) (.op .idx (.cons (.bor 3) (.cons (.cst (.int 0)) .nil))) (.tup (.cons (.var 3) (.cons (.call i_sum_of none (.cons (.bor 4) (.cons (.tup (.cons (.var 2) .nil)) .nil))) .nil))))
    .nil) .nil)
    .nil)))
    .nil))⟩
/-- Leads.rest_of
 -/
def g_Leads_rest_of (d_own_rows : Nat) (i_sum_of : Nat) : Fn := ⟨2, 6, [0], (.cons (.unp [.v 2, .v 3] (.tup (.cons (.tup .nil) (.cons (.cst (.int 0)) .nil))))
    (.cons (.whl (.tst (.op .lt (.cons (.bor 3) (.cons (.op .len (.cons (.bor 1) .nil)) .nil)))) (.cons (.ite (.tst (.op .in_ (.cons (.op .idx (.cons (.bor 1) (.cons (.bor 3) .nil))) (.cons (.fbor 0 d_own_rows) .nil)))) (.cons (.unp [.v 4, .v 5] (.op .idx (.cons (.fbor 0 d_own_rows) (.cons (.op .idx (.cons (.bor 1) (.cons (.bor 3) .nil))) .nil))))
    (.cons (.par [1, 2] (.cons (.call i_sum_of none (.cons (.bor 1) (.cons (.bor 4) .nil))) (.cons (.call i_sum_of none (.cons (.bor 2) (.cons (.bor 5) .nil))) .nil)))
    .nil)) (.cons (.aug 3 .add (.cst (.int 1)))
    .nil))
    .nil))
    (.cons (.ret (.tup (.cons (.var 1) (.cons (.var 2) .nil))))
    .nil)))⟩
/-- Leads.led
 -/
def g_Leads_led (d_own_rows : Nat) : Fn := ⟨1, 1, [0], (.cons (.ret (.op .sorted (.cons (.fbor 0 d_own_rows) .nil)))
    .nil)⟩
/-- Leads.even_with
 -/
def g_Leads_even_with (c_Leads : Nat) (i_Leads_led : Nat) (d_own_rows : Nat) : Fn := ⟨2, 6, [0], (.cons (.asg 2 (.dict1 (.var 1) (.cst (.bool true))))
    (.cons (.loop [3] .seq (.cons (.op .rev (.cons (.meth c_Leads i_Leads_led (.cons (.bor 0) .nil)) .nil)) .nil) (.cons (.asg 4 (.op .idx (.cons (.op .idx (.cons (.fbor 0 d_own_rows) (.cons (.bor 3) .nil))) (.cons (.cst (.int 0)) .nil))))
    (.cons (.ite (.tst (.op .eq (.cons (.op .mod (.cons (.op .len (.cons (.comp [5] .seq (.cons (.op (.slice true false) (.cons (.bor 4) (.cons (.cst (.int 1)) .nil))) .nil) (.tst (.op .in_ (.cons (.bor 5) (.cons (.bor 2) .nil)))) (.var 5)) .nil)) (.cons (.cst (.int 2)) .nil))) (.cons (.cst (.int 1)) .nil)))) (.cons (.sto (.v 2) (.var 3) (.cst (.bool true)))
    .nil) .nil)
    .nil)))
    (.cons (.ret (.op .tuple (.cons (.op .sorted (.cons (.bor 2) .nil)) .nil)))
    .nil)))⟩
/-- paper_of
 -/
def g_paper_of (g_SUM : Nat) (g_EVEN : Nat) (c_Leads : Nat) (i_Leads_even_with : Nat) (i_Leads_rest_of : Nat) (i_Leads_init : Nat) : Fn := ⟨2, 5, [], (.cons (.asg 2 (.make c_Leads i_Leads_init (.cons (.bor 0) .nil)))
    (.cons (.unp [.v 3, .v 4] (.meth c_Leads i_Leads_rest_of (.cons (.bor 2) (.cons (.bor 1) .nil))))
    (.cons (.ret (.ite (.tst (.op .eq (.cons (.bor 3) (.cons (.tup .nil) .nil)))) (.tup (.cons (.glob g_SUM) (.cons (.var 4) .nil))) (.tup (.cons (.glob g_EVEN) (.cons (.meth c_Leads i_Leads_even_with (.cons (.bor 2) (.cons (.op .idx (.cons (.bor 3) (.cons (.cst (.int 0)) .nil))) .nil))) .nil)))))
    .nil)))⟩
/-- are_triples_in
 -/
def g_are_triples_in (i_is_rising : Nat) (i_is_triple_in : Nat) : Fn := ⟨2, 3, [], (.cons (.ite (.or (.not (.tst (.op (.isi [.tuple]) (.cons (.bor 1) .nil)))) (.not (.tst (.op .all (.cons (.comp [2] .seq (.cons (.var 1) .nil) .nil (.call i_is_triple_in none (.cons (.op .idx (.cons (.bor 0) (.cons (.cst (.int 1)) .nil))) (.cons (.bor 2) .nil)))) .nil))))) (.cons (.ret (.cst (.bool false)))
    .nil) .nil)
    (.cons (.ret (.and (.call i_is_rising none (.cons (.bor 1) .nil)) (.op .all (.cons (.comp [2] .seq (.cons (.var 1) .nil) .nil (.op .in_ (.cons (.bor 2) (.cons (.op .idx (.cons (.bor 0) (.cons (.cst (.int 2)) .nil))) .nil)))) .nil))))
    .nil))⟩
/-- is_paper_of
 -/
def g_is_paper_of (i_is_even_of : Nat) (i_is_word_of : Nat) (g_EVEN : Nat) (g_SUM : Nat) (i_sum_of_all : Nat) (i_are_triples_in : Nat) (i_is_row : Nat) : Fn := ⟨3, 4, [], (.cons (.ite (.or (.not (.tst (.call i_is_row none (.cons (.bor 2) (.cons (.cst (.int 2)) .nil))))) (.not (.tst (.op (.isi [.str]) (.cons (.op .idx (.cons (.bor 2) (.cons (.cst (.int 0)) .nil))) .nil))))) (.cons (.ret (.cst (.bool false)))
    .nil) .nil)
    (.cons (.ite (.tst (.op .eq (.cons (.op .idx (.cons (.bor 2) (.cons (.cst (.int 0)) .nil))) (.cons (.glob g_SUM) .nil)))) (.cons (.ret (.and (.call i_are_triples_in none (.cons (.bor 0) (.cons (.op .idx (.cons (.bor 2) (.cons (.cst (.int 1)) .nil))) .nil))) (.op .eq (.cons (.call i_sum_of_all none (.cons (.op .idx (.cons (.bor 2) (.cons (.cst (.int 1)) .nil))) .nil)) (.cons (.bor 1) .nil)))))
    .nil) .nil)
    (.cons (.ite (.or (.tst (.op .ne (.cons (.op .idx (.cons (.bor 2) (.cons (.cst (.int 0)) .nil))) (.cons (.glob g_EVEN) .nil)))) (.or (.not (.tst (.call i_is_word_of none (.cons (.op .idx (.cons (.bor 0) (.cons (.cst (.int 1)) .nil))) (.cons (.op .idx (.cons (.bor 2) (.cons (.cst (.int 1)) .nil))) .nil))))) (.not (.tst (.call i_is_even_of none (.cons (.bor 0) (.cons (.op .idx (.cons (.bor 2) (.cons (.cst (.int 1)) .nil))) .nil))))))) (.cons (.ret (.cst (.bool false)))
    .nil) .nil)
    (.cons (.ret (.op .eq (.cons (.op .mod (.cons (.op .len (.cons (.comp [3] .seq (.cons (.var 1) .nil) (.tst (.op .in_ (.cons (.bor 3) (.cons (.op .idx (.cons (.bor 2) (.cons (.cst (.int 1)) .nil))) .nil)))) (.var 3)) .nil)) (.cons (.cst (.int 2)) .nil))) (.cons (.cst (.int 1)) .nil))))
    .nil))))⟩
/-- is_word_of
 -/
def g_is_word_of (i_is_rising : Nat) (i_is_below : Nat) : Fn := ⟨2, 3, [], (.cons (.ret (.and (.op (.isi [.tuple]) (.cons (.bor 1) .nil)) (.and (.op .all (.cons (.comp [2] .seq (.cons (.var 1) .nil) .nil (.call i_is_below none (.cons (.bor 2) (.cons (.bor 0) .nil)))) .nil)) (.call i_is_rising none (.cons (.bor 1) .nil)))))
    .nil)⟩
/-- want_word
 -/
def g_want_word (i_is_word_of : Nat) : Fn := ⟨2, 2, [], (.cons (.ite (.not (.tst (.call i_is_word_of none (.cons (.bor 0) (.cons (.bor 1) .nil))))) (.cons .never
    .nil) .nil)
    (.cons (.ret (.mv 1))
    .nil))⟩
/-- want_told
 -/
def g_want_told (i_want_word : Nat) (i_want_lot : Nat) : Fn := ⟨2, 2, [], (.cons (.ex (.call i_want_word none (.cons (.op .idx (.cons (.call i_want_lot none (.cons (.bor 0) .nil)) (.cons (.cst (.int 1)) .nil))) (.cons (.bor 1) .nil))))
    .nil)⟩
/-- word_paper
 -/
def g_word_paper (i_paper_of : Nat) (i_want_told : Nat) : Fn := ⟨2, 2, [], (.cons (.ex (.call i_want_told none (.cons (.bor 0) (.cons (.bor 1) .nil))))
    (.cons (.ret (.call i_paper_of none (.cons (.bor 0) (.cons (.bor 1) .nil))))
    .nil))⟩
/-- is_word_paper
 -/
def g_is_word_paper (i_is_paper_of : Nat) (i_want_told : Nat) : Fn := ⟨3, 3, [], (.cons (.ex (.call i_want_told none (.cons (.bor 0) (.cons (.bor 1) .nil))))
    (.cons (.ret (.call i_is_paper_of none (.cons (.bor 0) (.cons (.bor 1) (.cons (.bor 2) .nil)))))
    .nil))⟩
/-- _law_pot
 -/
def g__law_pot : Fn := ⟨2, 3, [], (.cons (.asg 2 (.op .add (.cons (.op .mul (.cons (.cst (.int 997)) (.cons (.bor 1) .nil))) (.cons (.cst (.int 613)) .nil))))
    (.cons (.ite (.tst (.op .lt (.cons (.bor 1) (.cons (.op .len (.cons (.bor 0) .nil)) .nil)))) (.cons (.asg 2 (.op .abs (.cons (.op .idx (.cons (.bor 0) (.cons (.bor 1) .nil))) .nil)))
    .nil) .nil)
    (.cons (.ret (.lst (.cons (.op .max2 (.cons (.cst (.int 0)) (.cons (.op .sub (.cons (.bor 2) (.cons (.op .pow (.cons (.cst (.int 10)) (.cons (.cst (.int 18)) .nil))) .nil))) .nil))) (.cons (.op .add (.cons (.op .mod (.cons (.op .int (.cons (.op .add (.cons (.op .add (.cons (.op .mul (.cons (.op .mod (.cons (.op .int (.cons (.bor 2) .nil)) (.cons (.cst (.int 2147483549)) .nil))) (.cons (.cst (.int 41161)) .nil))) (.cons (.op .mul (.cons (.cst (.int 613)) (.cons (.bor 1) .nil))) .nil))) (.cons (.cst (.int 59)) .nil))) .nil)) (.cons (.cst (.int 2147483563)) .nil))) (.cons (.cst (.int 1)) .nil))) .nil))))
    .nil)))⟩
/-- _law_draw
 -/
def g__law_draw : Fn := ⟨2, 3, [0], (.cons (.ite (.tst (.op .gt (.cons (.op .idx (.cons (.bor 0) (.cons (.cst (.int 0)) .nil))) (.cons (.cst (.int 0)) .nil)))) (.cons (.unp [.s (.v 0) (.int 0), .v 2] (.op .divmod (.cons (.op .idx (.cons (.bor 0) (.cons (.cst (.int 0)) .nil))) (.cons (.bor 1) .nil))))
    (.cons (.ret (.mv 2))
    .nil)) .nil)
    (.cons (.sto (.v 0) (.cst (.int 1)) (.op .mod (.cons (.op .int (.cons (.op .add (.cons (.op .mul (.cons (.op .idx (.cons (.bor 0) (.cons (.cst (.int 1)) .nil))) (.cons (.cst (.int 48271)) .nil))) (.cons (.cst (.int 1049)) .nil))) .nil)) (.cons (.cst (.int 2147483587)) .nil))))
    (.cons (.ret (.op .mod (.cons (.op .int (.cons (.op .fdiv (.cons (.op .mod (.cons (.op .int (.cons (.op .mul (.cons (.op .idx (.cons (.bor 0) (.cons (.cst (.int 1)) .nil))) (.cons (.op .idx (.cons (.bor 0) (.cons (.cst (.int 1)) .nil))) .nil))) .nil)) (.cons (.cst (.int 2147483563)) .nil))) (.cons (.cst (.int 19)) .nil))) .nil)) (.cons (.bor 1) .nil))))
    .nil)))⟩
/-- _law_pick
 -/
def g__law_pick (i__law_draw : Nat) : Fn := ⟨2, 2, [0], (.cons (.ret (.op .idx (.cons (.bor 1) (.cons (.call i__law_draw none (.cons (.bor 0) (.cons (.op .len (.cons (.bor 1) .nil)) .nil))) .nil))))
    .nil)⟩
/-- _law_all_pairs
 -/
def g__law_all_pairs : Fn := ⟨1, 4, [], (.cons (.asg 1 (.lst .nil))
    (.cons (.loop [2] .range1 (.cons (.var 0) .nil) (.cons (.ex (.mut .extend 1 (.cons (.comp [3] .range2 (.cons (.op .add (.cons (.bor 2) (.cons (.cst (.int 1)) .nil))) (.cons (.var 0) .nil)) .nil (.tup (.cons (.var 2) (.cons (.var 3) .nil)))) .nil)))
    .nil))
    (.cons (.ret (.mv 1))
    .nil)))⟩
/-- _law_all_triples
 -/
def g__law_all_triples (i__law_all_pairs : Nat) : Fn := ⟨1, 5, [], (.cons (.asg 1 (.lst .nil))
    (.cons (.loop [2, 3] .seq (.cons (.call i__law_all_pairs none (.cons (.bor 0) .nil)) .nil) (.cons (.ex (.mut .extend 1 (.cons (.comp [4] .range2 (.cons (.op .add (.cons (.bor 3) (.cons (.cst (.int 1)) .nil))) (.cons (.var 0) .nil)) .nil (.tup (.cons (.var 2) (.cons (.var 3) (.cons (.var 4) .nil))))) .nil)))
    .nil))
    (.cons (.ret (.mv 1))
    .nil)))⟩
/-- _law_shuffled
 -/
def g__law_shuffled (i__law_draw : Nat) : Fn := ⟨2, 4, [0], (.cons (.par [2, 3] (.cons (.op .list (.cons (.bor 1) .nil)) (.cons (.lst .nil) .nil)))
    (.cons (.whl (.tst (.op .ne (.cons (.bor 2) (.cons (.lst .nil) .nil)))) (.cons (.ex (.mut .append 3 (.cons (.mut .pop1 2 (.cons (.call i__law_draw none (.cons (.bor 0) (.cons (.op .len (.cons (.bor 2) .nil)) .nil))) .nil)) .nil)))
    .nil))
    (.cons (.ret (.mv 3))
    .nil)))⟩
/-- _law_any
 -/
def g__law_any (i__law_shuffled : Nat) (i__law_all_triples : Nat) (i__law_draw : Nat) : Fn := ⟨3, 3, [0], (.cons (.ret (.tup (.cons (.cst (.str "lot")) (.cons (.var 1) (.cons (.op .tuple (.cons (.op .sorted (.cons (.op (.slice false true) (.cons (.call i__law_shuffled none (.cons (.bor 0) (.cons (.call i__law_all_triples none (.cons (.bor 1) .nil)) .nil))) (.cons (.call i__law_draw none (.cons (.bor 0) (.cons (.op .add (.cons (.bor 2) (.cons (.cst (.int 1)) .nil))) .nil))) .nil))) .nil)) .nil)) .nil)))))
    .nil)⟩
/-- _law_sum
 -/
def g__law_sum : Fn := ⟨2, 3, [], (.cons (.ret (.op .tuple (.cons (.op .sorted (.cons (.op .add (.cons (.comp [2] .seq (.cons (.var 0) .nil) (.tst (.op .nin (.cons (.bor 2) (.cons (.bor 1) .nil)))) (.var 2)) (.cons (.comp [2] .seq (.cons (.var 1) .nil) (.tst (.op .nin (.cons (.bor 2) (.cons (.bor 0) .nil)))) (.var 2)) .nil))) .nil)) .nil)))
    .nil)⟩
/-- _law_word
 -/
def g__law_word (i__law_draw : Nat) : Fn := ⟨2, 3, [0], (.cons (.ret (.op .tuple (.cons (.comp [2] .range1 (.cons (.var 1) .nil) (.tst (.op .eq (.cons (.call i__law_draw none (.cons (.bor 0) (.cons (.cst (.int 3)) .nil))) (.cons (.cst (.int 0)) .nil)))) (.var 2)) .nil)))
    .nil)⟩
/-- _law_is_even
 -/
def g__law_is_even : Fn := ⟨2, 4, [], (.cons (.ret (.op .eq (.cons (.comp [2] .seq (.cons (.op .idx (.cons (.bor 0) (.cons (.cst (.int 2)) .nil))) .nil) (.tst (.op .in_ (.cons (.op .len (.cons (.comp [3] .seq (.cons (.var 2) .nil) (.tst (.op .in_ (.cons (.bor 3) (.cons (.bor 1) .nil)))) (.var 3)) .nil)) (.cons (.tup (.cons (.cst (.int 1)) (.cons (.cst (.int 3)) .nil))) .nil)))) (.var 2)) (.cons (.lst .nil) .nil))))
    .nil)⟩
/-- _law_is_odd
 -/
def g__law_is_odd : Fn := ⟨2, 4, [], (.cons (.asg 2 (.op .len (.cons (.comp [3] .seq (.cons (.var 0) .nil) (.tst (.op .in_ (.cons (.bor 3) (.cons (.bor 1) .nil)))) (.var 3)) .nil)))
    (.cons (.ret (.op .eq (.cons (.op .sub (.cons (.bor 2) (.cons (.op .mul (.cons (.op .fdiv (.cons (.bor 2) (.cons (.cst (.int 2)) .nil))) (.cons (.cst (.int 2)) .nil))) .nil))) (.cons (.cst (.int 1)) .nil))))
    .nil))⟩
/-- _law_spoilt
 -/
def g__law_spoilt (i__law_pick : Nat) (i__law_draw : Nat) (i__law_spoilt : Nat) : Fn := ⟨3, 5, [0], (.cons (.ite (.and (.tst (.op (.isi [.tuple]) (.cons (.bor 1) .nil))) (.and (.tst (.op .ne (.cons (.bor 1) (.cons (.tup .nil) .nil)))) (.and (.tst (.op .gt (.cons (.bor 2) (.cons (.cst (.int 0)) .nil)))) (.tst (.op .gt (.cons (.call i__law_draw none (.cons (.bor 0) (.cons (.cst (.int 4)) .nil))) (.cons (.cst (.int 0)) .nil))))))) (.cons (.asg 3 (.call i__law_draw none (.cons (.bor 0) (.cons (.op .len (.cons (.bor 1) .nil)) .nil))))
    (.cons (.ret (.op .add (.cons (.op .add (.cons (.op (.slice false true) (.cons (.bor 1) (.cons (.bor 3) .nil))) (.cons (.tup (.cons (.call i__law_spoilt none (.cons (.bor 0) (.cons (.op .idx (.cons (.bor 1) (.cons (.bor 3) .nil))) (.cons (.op .sub (.cons (.bor 2) (.cons (.cst (.int 1)) .nil))) .nil)))) .nil)) .nil))) (.cons (.op (.slice true false) (.cons (.bor 1) (.cons (.op .add (.cons (.bor 3) (.cons (.cst (.int 1)) .nil))) .nil))) .nil))))
    .nil)) .nil)
    (.cons (.ite (.tst (.op (.isi [.tuple]) (.cons (.bor 1) .nil))) (.cons (.asg 4 (.op .add (.cons (.op (.slice true false) (.cons (.bor 1) (.cons (.cst (.int 1)) .nil))) (.cons (.op (.slice false true) (.cons (.bor 1) (.cons (.cst (.int 1)) .nil))) .nil))))
    (.cons (.ret (.call i__law_pick none (.cons (.bor 0) (.cons (.lst (.cons (.op .list (.cons (.bor 1) .nil)) (.cons (.op .add (.cons (.bor 1) (.cons (.op (.slice false true) (.cons (.bor 1) (.cons (.cst (.int 1)) .nil))) .nil))) (.cons (.op (.slice true false) (.cons (.bor 1) (.cons (.cst (.int 1)) .nil))) (.cons (.var 4) (.cons (.op .tuple (.cons (.op .lrev (.cons (.op .list (.cons (.bor 1) .nil)) .nil)) .nil)) (.cons (.tup (.cons (.var 1) (.cons (.var 1) .nil))) .nil))))))) .nil))))
    .nil)) .nil)
    (.cons (.ite (.tst (.op (.isi [.int]) (.cons (.bor 1) .nil))) (.cons (.ret (.call i__law_pick none (.cons (.bor 0) (.cons (.lst (.cons (.op .add (.cons (.bor 1) (.cons (.cst (.int 1)) .nil))) (.cons (.op .sub (.cons (.bor 1) (.cons (.cst (.int 1)) .nil))) (.cons (.op .bool (.cons (.bor 1) .nil)) (.cons (.op .neg (.cons (.bor 1) .nil)) (.cons (.op .str (.cons (.bor 1) .nil)) (.cons (.op .mul (.cons (.bor 1) (.cons (.cst (.int 2)) .nil))) (.cons (.tup (.cons (.var 1) .nil)) .nil)))))))) .nil))))
    .nil) .nil)
    (.cons (.ret (.cst .none))
    .nil))))⟩
/-- _law_is_whole
 -/
def g__law_is_whole : Fn := ⟨1, 1, [], (.cons (.ret (.and (.op (.isi [.int]) (.cons (.bor 0) .nil)) (.not (.op (.isi [.bool]) (.cons (.bor 0) .nil)))))
    .nil)⟩
/-- _law_is_word
 -/
def g__law_is_word (i__law_is_whole : Nat) : Fn := ⟨2, 5, [], (.cons (.ite (.or (.not (.tst (.op (.isi [.tuple]) (.cons (.bor 1) .nil)))) (.tst (.op .ne (.cons (.comp [2] .seq (.cons (.var 1) .nil) (.or (.not (.tst (.call i__law_is_whole none (.cons (.bor 2) .nil)))) (.not (.tst (.chain .le .lt (.cst (.int 0)) (.var 2) (.var 0))))) (.var 2)) (.cons (.lst .nil) .nil))))) (.cons (.ret (.cst (.bool false)))
    .nil) .nil)
    (.cons (.ret (.op .eq (.cons (.comp [3, 4] .zip2 (.cons (.var 1) (.cons (.op (.slice true false) (.cons (.bor 1) (.cons (.cst (.int 1)) .nil))) .nil)) (.not (.tst (.op .lt (.cons (.bor 3) (.cons (.bor 4) .nil))))) (.cst (.int 1))) (.cons (.lst .nil) .nil))))
    .nil))⟩
/-- _law_is_paper
 -/
def g__law_is_paper (i__law_sum : Nat) (i__law_is_word : Nat) (i__law_is_odd : Nat) (i__law_is_even : Nat) : Fn := ⟨3, 7, [], (.cons (.ite (.or (.not (.tst (.op (.isi [.tuple]) (.cons (.bor 2) .nil)))) (.or (.tst (.op .ne (.cons (.op .len (.cons (.bor 2) .nil)) (.cons (.cst (.int 2)) .nil)))) (.not (.tst (.op (.isi [.str]) (.cons (.op .idx (.cons (.bor 2) (.cons (.cst (.int 0)) .nil))) .nil)))))) (.cons (.ret (.cst (.bool false)))
    .nil) .nil)
    (.cons (.ite (.tst (.op .eq (.cons (.op .idx (.cons (.bor 2) (.cons (.cst (.int 0)) .nil))) (.cons (.cst (.str "even")) .nil)))) (.cons (.ret (.and (.call i__law_is_word none (.cons (.op .idx (.cons (.bor 0) (.cons (.cst (.int 1)) .nil))) (.cons (.op .idx (.cons (.bor 2) (.cons (.cst (.int 1)) .nil))) .nil))) (.and (.call i__law_is_even none (.cons (.bor 0) (.cons (.op .idx (.cons (.bor 2) (.cons (.cst (.int 1)) .nil))) .nil))) (.call i__law_is_odd none (.cons (.bor 1) (.cons (.op .idx (.cons (.bor 2) (.cons (.cst (.int 1)) .nil))) .nil))))))
    .nil) .nil)
    (.cons (.ite (.or (.tst (.op .ne (.cons (.op .idx (.cons (.bor 2) (.cons (.cst (.int 0)) .nil))) (.cons (.cst (.str "sum")) .nil)))) (.not (.tst (.op (.isi [.tuple]) (.cons (.op .idx (.cons (.bor 2) (.cons (.cst (.int 1)) .nil))) .nil))))) (.cons (.ret (.cst (.bool false)))
    .nil) .nil)
    (.cons (.asg 3 (.tup .nil))
    (.cons (.loop [4] .seq (.cons (.op .idx (.cons (.bor 2) (.cons (.cst (.int 1)) .nil))) .nil) (.cons (.ite (.or (.not (.tst (.call i__law_is_word none (.cons (.op .idx (.cons (.bor 0) (.cons (.cst (.int 1)) .nil))) (.cons (.bor 4) .nil))))) (.tst (.op .nin (.cons (.bor 4) (.cons (.op .idx (.cons (.bor 0) (.cons (.cst (.int 2)) .nil))) .nil))))) (.cons (.ret (.cst (.bool false)))
    .nil) .nil)
    (.cons (.asg 3 (.call i__law_sum none (.cons (.bor 3) (.cons (.bor 4) .nil))))
    .nil)))
    (.cons (.ret (.and (.op .eq (.cons (.comp [5, 6] .zip2 (.cons (.op .idx (.cons (.bor 2) (.cons (.cst (.int 1)) .nil))) (.cons (.op (.slice true false) (.cons (.op .idx (.cons (.bor 2) (.cons (.cst (.int 1)) .nil))) (.cons (.cst (.int 1)) .nil))) .nil)) (.not (.tst (.op .lt (.cons (.bor 5) (.cons (.bor 6) .nil))))) (.cst (.int 1))) (.cons (.lst .nil) .nil))) (.op .eq (.cons (.bor 3) (.cons (.bor 1) .nil)))))
    .nil))))))⟩
/-- _law_true
 -/
def g__law_true (i__law_is_whole : Nat) (i__law_true : Nat) : Fn := ⟨1, 2, [], (.cons (.ite (.tst (.op (.isi [.tuple]) (.cons (.bor 0) .nil))) (.cons (.ret (.op .tuple (.cons (.comp [1] .seq (.cons (.var 0) .nil) .nil (.call i__law_true none (.cons (.bor 1) .nil))) .nil)))
    .nil) .nil)
    (.cons (.ret (.ite (.and (.tst (.call i__law_is_whole none (.cons (.bor 0) .nil))) (.tst (.op .eq (.cons (.bor 0) (.cons (.cst (.int 1)) .nil))))) (.cst (.bool true)) (.var 0)))
    .nil))⟩
/-- _law_bends
 -/
def g__law_bends (i__law_spoilt : Nat) (i__law_word : Nat) (i__law_true : Nat) : Fn := ⟨4, 8, [0], (.cons (.asg 4 (.op .idx (.cons (.bor 3) (.cons (.cst (.int 1)) .nil))))
    (.cons (.asg 5 (.lst (.cons (.var 3) (.cons (.op .list (.cons (.bor 3) .nil)) (.cons (.op (.slice false true) (.cons (.bor 3) (.cons (.cst (.int 1)) .nil))) (.cons (.op .add (.cons (.bor 3) (.cons (.tup (.cons (.cst (.int 0)) .nil)) .nil))) (.cons (.op .rev (.cons (.bor 3) .nil)) (.cons (.tup (.cons (.cst (.str "sum")) (.cons (.var 4) .nil))) (.cons (.tup (.cons (.cst (.str "even")) (.cons (.var 4) .nil))) (.cons (.tup (.cons (.cst (.str "Sum")) (.cons (.var 4) .nil))) (.cons (.tup (.cons (.cst .none) (.cons (.var 4) .nil))) (.cons (.cst .none) .nil))))))))))))
    (.cons (.ex (.mut .extend 5 (.cons (.lst (.cons (.tup .nil) (.cons (.tup (.cons (.cst (.str "sum")) (.cons (.tup .nil) .nil))) (.cons (.tup (.cons (.cst (.str "even")) (.cons (.tup .nil) .nil))) (.cons (.tup (.cons (.cst (.str "sum")) (.cons (.cst .none) .nil))) (.cons (.tup (.cons (.cst (.str "sum")) (.cons (.op .idx (.cons (.bor 1) (.cons (.cst (.int 2)) .nil))) .nil))) (.cons (.tup (.cons (.cst (.str "sum")) (.cons (.op .rev (.cons (.op .idx (.cons (.bor 1) (.cons (.cst (.int 2)) .nil))) .nil)) .nil))) (.cons (.call i__law_true none (.cons (.bor 3) .nil)) (.cons (.tup (.cons (.cst (.str "even")) (.cons (.var 2) .nil))) (.cons (.tup (.cons (.cst (.str "even")) (.cons (.op .trng1 (.cons (.op .idx (.cons (.bor 1) (.cons (.cst (.int 1)) .nil))) .nil)) .nil))) .nil)))))))))) .nil)))
    (.cons (.ex (.mut .extend 5 (.cons (.lst (.cons (.tup (.cons (.cst (.str "sum")) (.cons (.op (.slice true false) (.cons (.bor 4) (.cons (.cst (.int 1)) .nil))) .nil))) (.cons (.tup (.cons (.cst (.str "sum")) (.cons (.op .rev (.cons (.bor 4) .nil)) .nil))) (.cons (.tup (.cons (.cst (.str "sum")) (.cons (.op .list (.cons (.bor 4) .nil)) .nil))) (.cons (.tup (.cons (.cst (.str "sum")) (.cons (.op .add (.cons (.bor 4) (.cons (.bor 4) .nil))) .nil))) (.cons (.tup (.cons (.cst (.str "even")) (.cons (.op (.slice true false) (.cons (.bor 4) (.cons (.cst (.int 1)) .nil))) .nil))) (.cons (.tup (.cons (.cst (.str "even")) (.cons (.op .rev (.cons (.bor 4) .nil)) .nil))) (.cons (.tup (.cons (.cst (.str "even")) (.cons (.op .list (.cons (.bor 4) .nil)) .nil))) (.cons (.tup (.cons (.cst (.str "even")) (.cons (.tup (.cons (.cst (.int 99)) .nil)) .nil))) .nil))))))))) .nil)))
    (.cons (.ex (.mut .extend 5 (.cons (.comp [6] .range1 (.cons (.cst (.int 6)) .nil) .nil (.tup (.cons (.cst (.str "even")) (.cons (.call i__law_word none (.cons (.bor 0) (.cons (.op .idx (.cons (.bor 1) (.cons (.cst (.int 1)) .nil))) .nil))) .nil)))) .nil)))
    (.cons (.ex (.mut .extend 5 (.cons (.op .add (.cons (.comp [7] .seq (.cons (.op (.slice false true) (.cons (.op .idx (.cons (.bor 1) (.cons (.cst (.int 2)) .nil))) (.cons (.cst (.int 3)) .nil))) .nil) .nil (.tup (.cons (.cst (.str "sum")) (.cons (.tup (.cons (.var 7) .nil)) .nil)))) (.cons (.lst (.cons (.tup (.cons (.cst (.str "sum")) (.cons (.tup (.cons (.tup (.cons (.cst (.int 0)) (.cons (.cst (.int 1)) (.cons (.cst (.int 2)) .nil)))) (.cons (.tup (.cons (.cst (.int 0)) (.cons (.cst (.int 1)) (.cons (.cst (.int 3)) .nil)))) .nil))) .nil))) .nil)) .nil))) .nil)))
    (.cons (.ret (.op .add (.cons (.bor 5) (.cons (.comp [6] .range1 (.cons (.cst (.int 5)) .nil) .nil (.call i__law_spoilt none (.cons (.bor 0) (.cons (.bor 3) (.cons (.cst (.int 4)) .nil))))) .nil))))
    .nil)))))))⟩
/-- _law_right
 -/
def g__law_right (i__law_bends : Nat) (i_word_paper : Nat) (i__law_is_paper : Nat) (i_is_word_paper : Nat) (i__law_pick : Nat) (i__law_sum : Nat) (i__law_word : Nat) (i__law_any : Nat) (i__law_draw : Nat) : Fn := ⟨1, 6, [0], (.cons (.asg 1 (.call i__law_any none (.cons (.bor 0) (.cons (.op .add (.cons (.cst (.int 3)) (.cons (.call i__law_draw none (.cons (.bor 0) (.cons (.cst (.int 7)) .nil))) .nil))) (.cons (.cst (.int 6)) .nil)))))
    (.cons (.asg 2 (.lst (.cons (.call i__law_word none (.cons (.bor 0) (.cons (.op .idx (.cons (.bor 1) (.cons (.cst (.int 1)) .nil))) .nil))) (.cons (.tup .nil) .nil))))
    (.cons (.ite (.tst (.op .ne (.cons (.op .idx (.cons (.bor 1) (.cons (.cst (.int 2)) .nil))) (.cons (.tup .nil) .nil)))) (.cons (.ex (.mut .extend 2 (.cons (.lst (.cons (.call i__law_pick none (.cons (.bor 0) (.cons (.op .idx (.cons (.bor 1) (.cons (.cst (.int 2)) .nil))) .nil))) (.cons (.call i__law_sum none (.cons (.call i__law_pick none (.cons (.bor 0) (.cons (.op .idx (.cons (.bor 1) (.cons (.cst (.int 2)) .nil))) .nil))) (.cons (.call i__law_pick none (.cons (.bor 0) (.cons (.op .idx (.cons (.bor 1) (.cons (.cst (.int 2)) .nil))) .nil))) .nil))) .nil))) .nil)))
    .nil) .nil)
    (.cons (.loop [3] .seq (.cons (.var 2) .nil) (.cons (.loop [4] .seq (.cons (.call i__law_bends none (.cons (.bor 0) (.cons (.bor 1) (.cons (.bor 3) (.cons (.call i_word_paper none (.cons (.bor 1) (.cons (.bor 3) .nil))) .nil))))) .nil) (.cons (.asg 5 (.call i_is_word_paper none (.cons (.bor 1) (.cons (.bor 3) (.cons (.bor 4) .nil)))))
    (.cons (.ite (.or (.not (.tst (.op (.isi [.bool]) (.cons (.bor 5) .nil)))) (.tst (.op .ne (.cons (.bor 5) (.cons (.call i__law_is_paper none (.cons (.bor 1) (.cons (.bor 3) (.cons (.bor 4) .nil)))) .nil))))) (.cons (.ret (.cst (.bool false)))
    .nil) .nil)
    .nil)))
    .nil))
    (.cons (.ret (.cst (.bool true)))
    .nil)))))⟩
/-- law
 -/
def g_law (i__law_right : Nat) (i__law_pot : Nat) : Fn := ⟨1, 1, [], (.cons (.ret (.and (.call i__law_right none (.cons (.call i__law_pot none (.cons (.bor 0) (.cons (.cst (.int 0)) .nil))) .nil)) (.call i__law_right none (.cons (.call i__law_pot none (.cons (.bor 0) (.cons (.cst (.int 1)) .nil))) .nil))))
    .nil)⟩
/-- want_at_most
 -/
def g_want_at_most : Fn := ⟨3, 3, [], (.cons (.ite (.tst (.op .gt (.cons (.bor 2) (.cons (.bor 1) .nil)))) (.cons .never
    .nil) .nil)
    .nil)⟩
/-- Leads.rank
 -/
def g_Leads_rank (d_own_rows : Nat) : Fn := ⟨1, 1, [0], (.cons (.ret (.op .len (.cons (.fbor 0 d_own_rows) .nil)))
    .nil)⟩
/-- Leads.rows
 -/
def g_Leads_rows (c_Leads : Nat) (i_Leads_led : Nat) (d_own_rows : Nat) : Fn := ⟨1, 2, [0], (.cons (.ret (.comp [1] .seq (.cons (.meth c_Leads i_Leads_led (.cons (.bor 0) .nil)) .nil) .nil (.op .idx (.cons (.op .idx (.cons (.fbor 0 d_own_rows) (.cons (.bor 1) .nil))) (.cons (.cst (.int 0)) .nil)))))
    .nil)⟩
/-- want_two_words
 -/
def g_want_two_words (i_want_word : Nat) (g_MOST_THINGS : Nat) : Fn := ⟨2, 2, [], (.cons (.ex (.call i_want_word none (.cons (.glob g_MOST_THINGS) (.cons (.bor 0) .nil))))
    (.cons (.ex (.call i_want_word none (.cons (.glob g_MOST_THINGS) (.cons (.bor 1) .nil))))
    .nil))⟩
/-- word_sum
 -/
def g_word_sum (i_sum_of : Nat) (i_want_two_words : Nat) : Fn := ⟨2, 2, [], (.cons (.ex (.call i_want_two_words none (.cons (.bor 0) (.cons (.bor 1) .nil))))
    (.cons (.ret (.call i_sum_of none (.cons (.bor 0) (.cons (.bor 1) .nil))))
    .nil))⟩
/-- far_apart
 -/
def g_far_apart (i_sum_of : Nat) (i_want_two_words : Nat) : Fn := ⟨2, 2, [], (.cons (.ex (.call i_want_two_words none (.cons (.bor 0) (.cons (.bor 1) .nil))))
    (.cons (.ret (.op .len (.cons (.call i_sum_of none (.cons (.bor 0) (.cons (.bor 1) .nil))) .nil)))
    .nil))⟩
/-- is_made
 -/
def g_is_made (c_Leads : Nat) (i_Leads_rest_of : Nat) (i_Leads_init : Nat) (i_want_told : Nat) : Fn := ⟨2, 2, [], (.cons (.ex (.call i_want_told none (.cons (.bor 0) (.cons (.bor 1) .nil))))
    (.cons (.ret (.op .eq (.cons (.op .idx (.cons (.meth c_Leads i_Leads_rest_of (.cons (.make c_Leads i_Leads_init (.cons (.bor 0) .nil)) (.cons (.bor 1) .nil))) (.cons (.cst (.int 0)) .nil))) (.cons (.tup .nil) .nil))))
    .nil))⟩
/-- is_even_to
 -/
def g_is_even_to (i_is_even_of : Nat) (i_want_told : Nat) : Fn := ⟨2, 2, [], (.cons (.ex (.call i_want_told none (.cons (.bor 0) (.cons (.bor 1) .nil))))
    (.cons (.ret (.call i_is_even_of none (.cons (.bor 0) (.cons (.bor 1) .nil))))
    .nil))⟩
/-- rank
 -/
def g_rank (c_Leads : Nat) (i_Leads_rank : Nat) (i_Leads_init : Nat) (i_want_lot : Nat) : Fn := ⟨1, 1, [], (.cons (.ret (.meth c_Leads i_Leads_rank (.cons (.make c_Leads i_Leads_init (.cons (.call i_want_lot none (.cons (.bor 0) .nil)) .nil)) .nil)))
    .nil)⟩
/-- made_words
 -/
def g_made_words (c_Leads : Nat) (i_Leads_rows : Nat) (i_sum_of : Nat) (i_want_at_most : Nat) (g_MOST_WORDS : Nat) (i_Leads_init : Nat) (i_want_lot : Nat) : Fn := ⟨1, 5, [], (.cons (.par [2, 3] (.cons (.make c_Leads i_Leads_init (.cons (.call i_want_lot none (.cons (.bor 0) .nil)) .nil)) (.cons (.lst (.cons (.tup .nil) .nil)) .nil)))
    (.cons (.loop [1] .seq (.cons (.meth c_Leads i_Leads_rows (.cons (.bor 2) .nil)) .nil) (.cons (.ex (.call i_want_at_most none (.cons (.cst (.str "words")) (.cons (.glob g_MOST_WORDS) (.cons (.op .mul (.cons (.cst (.int 2)) (.cons (.op .len (.cons (.bor 3) .nil)) .nil))) .nil)))))
    (.cons (.asg 3 (.op .add (.cons (.bor 3) (.cons (.comp [4] .seq (.cons (.var 3) .nil) .nil (.call i_sum_of none (.cons (.bor 4) (.cons (.bor 1) .nil)))) .nil))))
    .nil)))
    (.cons (.ret (.op .sorted (.cons (.bor 3) .nil)))
    .nil)))⟩
/-- _law_made
 -/
def g__law_made (i__law_sum : Nat) : Fn := ⟨1, 4, [], (.cons (.asg 1 (.lst (.cons (.tup .nil) .nil)))
    (.cons (.loop [2] .seq (.cons (.op .idx (.cons (.bor 0) (.cons (.cst (.int 2)) .nil))) .nil) (.cons (.ite (.tst (.op .nin (.cons (.bor 2) (.cons (.bor 1) .nil)))) (.cons (.asg 1 (.op .add (.cons (.bor 1) (.cons (.comp [3] .seq (.cons (.var 1) .nil) .nil (.call i__law_sum none (.cons (.bor 3) (.cons (.bor 2) .nil)))) .nil))))
    .nil) .nil)
    .nil))
    (.cons (.ret (.op .sorted (.cons (.bor 1) .nil)))
    .nil)))⟩
/-- _law_word_right
 -/
def g__law_word_right (i__law_is_odd : Nat) (i__law_is_even : Nat) (i__law_sum : Nat) (i_is_even_to : Nat) (i_is_word_paper : Nat) (i_word_paper : Nat) (i_is_made : Nat) : Fn := ⟨3, 8, [], (.cons (.par [4, 5] (.cons (.op .in_ (.cons (.bor 2) (.cons (.bor 1) .nil))) (.cons (.call i_word_paper none (.cons (.bor 0) (.cons (.bor 2) .nil))) .nil)))
    (.cons (.ite (.or (.tst (.op .ne (.cons (.op .repr (.cons (.lst (.cons (.call i_is_made none (.cons (.bor 0) (.cons (.bor 2) .nil))) (.cons (.call i_is_made (some [1, 0]) (.cons (.bor 2) (.cons (.bor 0) .nil))) .nil))) .nil)) (.cons (.op .repr (.cons (.lst (.cons (.var 4) (.cons (.var 4) .nil))) .nil)) .nil)))) (.tst (.op .ne (.cons (.op .idx (.cons (.bor 5) (.cons (.cst (.int 0)) .nil))) (.cons (.ite (.tst (.bor 4)) (.cst (.str "sum")) (.cst (.str "even"))) .nil))))) (.cons (.ret (.cst (.bool false)))
    .nil) .nil)
    (.cons (.ite (.or (.not (.tst (.call i_is_word_paper none (.cons (.bor 0) (.cons (.bor 2) (.cons (.bor 5) .nil)))))) (.not (.tst (.call i_is_word_paper (some [2, 1, 0]) (.cons (.call i_word_paper (some [1, 0]) (.cons (.bor 2) (.cons (.bor 0) .nil))) (.cons (.bor 2) (.cons (.bor 0) .nil))))))) (.cons (.ret (.cst (.bool false)))
    .nil) .nil)
    (.cons (.asg 3 (.call i__law_is_even none (.cons (.bor 0) (.cons (.bor 2) .nil))))
    (.cons (.ite (.tst (.op .ne (.cons (.op .repr (.cons (.lst (.cons (.call i_is_even_to none (.cons (.bor 0) (.cons (.bor 2) .nil))) (.cons (.call i_is_even_to (some [1, 0]) (.cons (.bor 2) (.cons (.bor 0) .nil))) .nil))) .nil)) (.cons (.op .repr (.cons (.lst (.cons (.var 3) (.cons (.var 3) .nil))) .nil)) .nil)))) (.cons (.ret (.cst (.bool false)))
    .nil) .nil)
    (.cons (.ite (.tst (.bor 4)) (.cons (.asg 6 (.tup .nil))
    (.cons (.loop [7] .seq (.cons (.op .idx (.cons (.bor 5) (.cons (.cst (.int 1)) .nil))) .nil) (.cons (.asg 6 (.call i__law_sum none (.cons (.bor 6) (.cons (.bor 7) .nil))))
    .nil))
    (.cons (.ret (.and (.op .eq (.cons (.bor 6) (.cons (.bor 2) .nil))) (.and (.op .eq (.cons (.comp [7] .seq (.cons (.op .idx (.cons (.bor 5) (.cons (.cst (.int 1)) .nil))) .nil) (.tst (.op .nin (.cons (.bor 7) (.cons (.op .idx (.cons (.bor 0) (.cons (.cst (.int 2)) .nil))) .nil)))) (.var 7)) (.cons (.lst .nil) .nil))) (.op .eq (.cons (.op .list (.cons (.op .idx (.cons (.bor 5) (.cons (.cst (.int 1)) .nil))) .nil)) (.cons (.op .sset (.cons (.op .idx (.cons (.bor 5) (.cons (.cst (.int 1)) .nil))) .nil)) .nil))))))
    .nil))) .nil)
    (.cons (.ret (.and (.call i__law_is_even none (.cons (.bor 0) (.cons (.op .idx (.cons (.bor 5) (.cons (.cst (.int 1)) .nil))) .nil))) (.call i__law_is_odd none (.cons (.bor 2) (.cons (.op .idx (.cons (.bor 5) (.cons (.cst (.int 1)) .nil))) .nil)))))
    .nil)))))))⟩
/-- _law_right
 -/
def k71_g__law_right (i__law_pick : Nat) (i__law_word_right : Nat) (i_word_sum : Nat) (i_far_apart : Nat) (i__law_sum : Nat) (i__law_word : Nat) (i_made_words : Nat) (i_rank : Nat) (i__law_made : Nat) (i__law_draw : Nat) (i__law_any : Nat) : Fn := ⟨1, 10, [0], (.cons (.asg 1 (.op .add (.cons (.cst (.int 3)) (.cons (.call i__law_draw none (.cons (.bor 0) (.cons (.cst (.int 7)) .nil))) .nil))))
    (.cons (.asg 2 (.call i__law_any none (.cons (.bor 0) (.cons (.bor 1) (.cons (.cst (.int 7)) .nil)))))
    (.cons (.ite (.tst (.op .eq (.cons (.call i__law_draw none (.cons (.bor 0) (.cons (.cst (.int 3)) .nil))) (.cons (.cst (.int 0)) .nil)))) (.cons (.asg 2 (.tup (.cons (.cst (.str "lot")) (.cons (.cst (.int 7)) (.cons (.tup (.cons (.tup (.cons (.cst (.int 0)) (.cons (.cst (.int 1)) (.cons (.cst (.int 2)) .nil)))) (.cons (.tup (.cons (.cst (.int 0)) (.cons (.cst (.int 3)) (.cons (.cst (.int 4)) .nil)))) (.cons (.tup (.cons (.cst (.int 0)) (.cons (.cst (.int 5)) (.cons (.cst (.int 6)) .nil)))) (.cons (.tup (.cons (.cst (.int 1)) (.cons (.cst (.int 3)) (.cons (.cst (.int 5)) .nil)))) (.cons (.tup (.cons (.cst (.int 1)) (.cons (.cst (.int 4)) (.cons (.cst (.int 6)) .nil)))) (.cons (.tup (.cons (.cst (.int 2)) (.cons (.cst (.int 3)) (.cons (.cst (.int 6)) .nil)))) (.cons (.tup (.cons (.cst (.int 2)) (.cons (.cst (.int 4)) (.cons (.cst (.int 5)) .nil)))) .nil)))))))) .nil)))))
    .nil) .nil)
    (.cons (.par [6, 7] (.cons (.call i__law_made none (.cons (.bor 2) .nil)) (.cons (.cst (.int 0)) .nil)))
    (.cons (.whl (.tst (.op .gt (.cons (.op .len (.cons (.bor 6) .nil)) (.cons (.op .idx (.cons (.lst (.cons (.cst (.int 1)) (.cons (.cst (.int 2)) (.cons (.cst (.int 4)) (.cons (.cst (.int 8)) (.cons (.cst (.int 16)) (.cons (.cst (.int 32)) (.cons (.cst (.int 64)) (.cons (.cst (.int 128)) (.cons (.cst (.int 256)) (.cons (.cst (.int 512)) .nil))))))))))) (.cons (.bor 7) .nil))) .nil)))) (.cons (.asg 7 (.op .add (.cons (.bor 7) (.cons (.cst (.int 1)) .nil))))
    .nil))
    (.cons (.ite (.tst (.op .ne (.cons (.op .repr (.cons (.lst (.cons (.call i_made_words none (.cons (.bor 2) .nil)) (.cons (.call i_rank none (.cons (.bor 2) .nil)) (.cons (.call i_made_words (some [0]) (.cons (.bor 2) .nil)) (.cons (.call i_rank (some [0]) (.cons (.bor 2) .nil)) .nil))))) .nil)) (.cons (.op .repr (.cons (.op .mul (.cons (.lst (.cons (.var 6) (.cons (.var 7) .nil))) (.cons (.cst (.int 2)) .nil))) .nil)) .nil)))) (.cons (.ret (.cst (.bool false)))
    .nil) .nil)
    (.cons (.par [8, 9] (.cons (.call i__law_word none (.cons (.bor 0) (.cons (.op .idx (.cons (.bor 2) (.cons (.cst (.int 1)) .nil))) .nil))) (.cons (.call i__law_word none (.cons (.bor 0) (.cons (.op .idx (.cons (.bor 2) (.cons (.cst (.int 1)) .nil))) .nil))) .nil)))
    (.cons (.asg 3 (.call i__law_sum none (.cons (.bor 8) (.cons (.bor 9) .nil))))
    (.cons (.asg 4 (.lst (.cons (.call i_word_sum none (.cons (.bor 8) (.cons (.bor 9) .nil))) (.cons (.call i_far_apart none (.cons (.bor 8) (.cons (.bor 9) .nil))) (.cons (.call i_word_sum (some [1, 0]) (.cons (.bor 9) (.cons (.bor 8) .nil))) (.cons (.call i_far_apart (some [1, 0]) (.cons (.bor 9) (.cons (.bor 8) .nil))) .nil))))))
    (.cons (.ite (.tst (.op .ne (.cons (.op .repr (.cons (.bor 4) .nil)) (.cons (.op .repr (.cons (.op .mul (.cons (.lst (.cons (.var 3) (.cons (.op .len (.cons (.bor 3) .nil)) .nil))) (.cons (.cst (.int 2)) .nil))) .nil)) .nil)))) (.cons (.ret (.cst (.bool false)))
    .nil) .nil)
    (.cons (.loop [5] .seq (.cons (.tup (.cons (.var 8) (.cons (.var 9) (.cons (.var 3) (.cons (.call i__law_pick none (.cons (.bor 0) (.cons (.bor 6) .nil))) (.cons (.tup .nil) .nil)))))) .nil) (.cons (.ite (.not (.tst (.call i__law_word_right none (.cons (.bor 2) (.cons (.bor 6) (.cons (.bor 5) .nil)))))) (.cons (.ret (.cst (.bool false)))
    .nil) .nil)
    .nil))
    (.cons (.ret (.cst (.bool true)))
    .nil))))))))))))⟩
/-- law
 -/
def k71_g_law (i__law_right : Nat) (i__law_pot : Nat) : Fn := ⟨1, 4, [], (.cons (.loop [1] .seq (.cons (.tup (.cons (.cst (.int 0)) (.cons (.cst (.int 1)) .nil))) .nil) (.cons (.asg 2 (.call i__law_pot none (.cons (.bor 0) (.cons (.bor 1) .nil))))
    (.cons (.loop [3] .range1 (.cons (.cst (.int 2)) .nil) (.cons (.ite (.not (.tst (.call i__law_right none (.cons (.bor 2) .nil)))) (.cons (.ret (.cst (.bool false)))
    .nil) .nil)
    .nil))
    .nil)))
    (.cons (.ret (.cst (.bool true)))
    .nil))⟩
/-- want_count
 -/
def g_want_count (i_is_count : Nat) : Fn := ⟨3, 3, [], (.cons (.ite (.or (.not (.tst (.call i_is_count none (.cons (.bor 0) .nil)))) (.not (.tst (.chain .le .le (.var 1) (.var 0) (.var 2))))) (.cons .never
    .nil) .nil)
    (.cons (.ret (.mv 0))
    .nil))⟩
/-- lot_by
 -/
def g_lot_by (g_LOT : Nat) : Fn := ⟨2, 3, [], (.cons (.ret (.tup (.cons (.glob g_LOT) (.cons (.var 0) (.cons (.op .tuple (.cons (.op .sset (.cons (.comp [2] .seq (.cons (.var 1) .nil) .nil (.op .tuple (.cons (.op .sorted (.cons (.bor 2) .nil)) .nil))) .nil)) .nil)) .nil)))))
    .nil)⟩
/-- pairs_of_triple
 -/
def g_pairs_of_triple : Fn := ⟨1, 1, [], (.cons (.ret (.lst (.cons (.tup (.cons (.op .idx (.cons (.bor 0) (.cons (.cst (.int 0)) .nil))) (.cons (.op .idx (.cons (.bor 0) (.cons (.cst (.int 1)) .nil))) .nil))) (.cons (.tup (.cons (.op .idx (.cons (.bor 0) (.cons (.cst (.int 0)) .nil))) (.cons (.op .idx (.cons (.bor 0) (.cons (.cst (.int 2)) .nil))) .nil))) (.cons (.tup (.cons (.op .idx (.cons (.bor 0) (.cons (.cst (.int 1)) .nil))) (.cons (.op .idx (.cons (.bor 0) (.cons (.cst (.int 2)) .nil))) .nil))) .nil)))))
    .nil)⟩
/-- all_pairs
 -/
def g_all_pairs : Fn := ⟨1, 4, [], (.cons (.asg 1 (.lst .nil))
    (.cons (.loop [2] .range1 (.cons (.var 0) .nil) (.cons (.ex (.mut .extend 1 (.cons (.comp [3] .range2 (.cons (.op .add (.cons (.bor 2) (.cons (.cst (.int 1)) .nil))) (.cons (.var 0) .nil)) .nil (.tup (.cons (.var 2) (.cons (.var 3) .nil)))) .nil)))
    .nil))
    (.cons (.ret (.mv 1))
    .nil)))⟩
/-- together
 -/
def g_together : Fn := ⟨2, 4, [], (.cons (.unp [.v 2, .v 3] (.tup (.cons (.cst (.int 0)) (.cons (.cst (.int 1)) .nil))))
    (.cons (.whl (.or (.tst (.op .gt (.cons (.bor 0) (.cons (.cst (.int 0)) .nil)))) (.tst (.op .gt (.cons (.bor 1) (.cons (.cst (.int 0)) .nil))))) (.cons (.aug 2 .add (.ite (.tst (.op .ne (.cons (.op .mod (.cons (.bor 0) (.cons (.cst (.int 2)) .nil))) (.cons (.op .mod (.cons (.bor 1) (.cons (.cst (.int 2)) .nil))) .nil)))) (.var 3) (.cst (.int 0))))
    (.cons (.par [0, 1, 3] (.cons (.op .fdiv (.cons (.bor 0) (.cons (.cst (.int 2)) .nil))) (.cons (.op .fdiv (.cons (.bor 1) (.cons (.cst (.int 2)) .nil))) (.cons (.op .mul (.cons (.bor 3) (.cons (.cst (.int 2)) .nil))) .nil))))
    .nil)))
    (.cons (.ret (.mv 2))
    .nil)))⟩
/-- things_of
 -/
def g_things_of : Fn := ⟨1, 3, [], (.cons (.asg 1 (.cst (.int 1)))
    (.cons (.loop [2] .range1 (.cons (.var 0) .nil) (.cons (.asg 1 (.op .mul (.cons (.bor 1) (.cons (.cst (.int 2)) .nil))))
    .nil))
    (.cons (.ret (.op .sub (.cons (.bor 1) (.cons (.cst (.int 1)) .nil))))
    .nil)))⟩
/-- sign_of
 -/
def g_sign_of (i_together : Nat) : Fn := ⟨1, 3, [], (.cons (.asg 1 (.cst (.int 0)))
    (.cons (.loop [2] .seq (.cons (.var 0) .nil) (.cons (.asg 1 (.call i_together none (.cons (.bor 1) (.cons (.op .add (.cons (.bor 2) (.cons (.cst (.int 1)) .nil))) .nil))))
    .nil))
    (.cons (.ret (.mv 1))
    .nil)))⟩
/-- plane_of
 -/
def g_plane_of (i_lot_by : Nat) (i_together : Nat) (i_things_of : Nat) : Fn := ⟨1, 5, [], (.cons (.par [2, 3] (.cons (.call i_things_of none (.cons (.bor 0) .nil)) (.cons (.lst .nil) .nil)))
    (.cons (.loop [1] .range1 (.cons (.var 2) .nil) (.cons (.loop [4] .range2 (.cons (.op .add (.cons (.bor 1) (.cons (.cst (.int 1)) .nil))) (.cons (.var 2) .nil)) (.cons (.ex (.mut .append 3 (.cons (.tup (.cons (.var 1) (.cons (.var 4) (.cons (.op .sub (.cons (.call i_together none (.cons (.op .add (.cons (.bor 1) (.cons (.cst (.int 1)) .nil))) (.cons (.op .add (.cons (.bor 4) (.cons (.cst (.int 1)) .nil))) .nil))) (.cons (.cst (.int 1)) .nil))) .nil)))) .nil)))
    .nil))
    .nil))
    (.cons (.ret (.call i_lot_by none (.cons (.bor 2) (.cons (.bor 3) .nil))))
    .nil)))⟩
/-- mended_of
 -/
def g_mended_of (i_sum_of : Nat) (i_sign_of : Nat) : Fn := ⟨1, 2, [], (.cons (.asg 1 (.call i_sign_of none (.cons (.bor 0) .nil)))
    (.cons (.ret (.ite (.tst (.op .eq (.cons (.bor 1) (.cons (.cst (.int 0)) .nil)))) (.var 0) (.call i_sum_of none (.cons (.bor 0) (.cons (.tup (.cons (.op .sub (.cons (.bor 1) (.cons (.cst (.int 1)) .nil))) .nil)) .nil)))))
    .nil))⟩
/-- plane
 -/
def g_plane (i_plane_of : Nat) (i_want_count : Nat) (g_LEAST_PLANE : Nat) (g_MOST_PLANE : Nat) : Fn := ⟨1, 1, [], (.cons (.ret (.call i_plane_of none (.cons (.call i_want_count none (.cons (.bor 0) (.cons (.glob g_LEAST_PLANE) (.cons (.glob g_MOST_PLANE) .nil)))) .nil)))
    .nil)⟩
/-- sign
 -/
def g_sign (i_sign_of : Nat) (i_want_word : Nat) (i_things_of : Nat) (i_want_count : Nat) (g_LEAST_PLANE : Nat) (g_MOST_PLANE : Nat) : Fn := ⟨2, 2, [], (.cons (.ex (.call i_want_word none (.cons (.call i_things_of none (.cons (.call i_want_count none (.cons (.bor 0) (.cons (.glob g_LEAST_PLANE) (.cons (.glob g_MOST_PLANE) .nil)))) .nil)) (.cons (.bor 1) .nil))))
    (.cons (.ret (.call i_sign_of none (.cons (.bor 1) .nil)))
    .nil))⟩
/-- mended
 -/
def g_mended (i_mended_of : Nat) (i_want_word : Nat) (i_things_of : Nat) (i_want_count : Nat) (g_LEAST_PLANE : Nat) (g_MOST_PLANE : Nat) : Fn := ⟨2, 2, [], (.cons (.ex (.call i_want_word none (.cons (.call i_things_of none (.cons (.call i_want_count none (.cons (.bor 0) (.cons (.glob g_LEAST_PLANE) (.cons (.glob g_MOST_PLANE) .nil)))) .nil)) (.cons (.bor 1) .nil))))
    (.cons (.ret (.call i_mended_of none (.cons (.bor 1) .nil)))
    .nil))⟩
/-- counts_of
 -/
def g_counts_of (i_pairs_of_triple : Nat) (i_all_pairs : Nat) : Fn := ⟨1, 4, [], (.cons (.asg 1 (.dcomp [3] .seq (.cons (.call i_all_pairs none (.cons (.op .idx (.cons (.bor 0) (.cons (.cst (.int 1)) .nil))) .nil)) .nil) .nil (.var 3) (.cst (.int 0))))
    (.cons (.loop [2] .seq (.cons (.op .idx (.cons (.bor 0) (.cons (.cst (.int 2)) .nil))) .nil) (.cons (.loop [3] .seq (.cons (.call i_pairs_of_triple none (.cons (.bor 2) .nil)) .nil) (.cons (.augsto 1 (.var 3) .add (.cst (.int 1)))
    .nil))
    .nil))
    (.cons (.ret (.mv 1))
    .nil)))⟩
/-- left_of
 -/
def g_left_of (i_counts_of : Nat) : Fn := ⟨1, 3, [], (.cons (.asg 1 (.call i_counts_of none (.cons (.bor 0) .nil)))
    (.cons (.ret (.comp [2] .seq (.cons (.op .sorted (.cons (.bor 1) .nil)) .nil) (.tst (.op .eq (.cons (.op .idx (.cons (.bor 1) (.cons (.bor 2) .nil))) (.cons (.cst (.int 0)) .nil)))) (.var 2)))
    .nil))⟩
/-- often_of
 -/
def g_often_of (i_counts_of : Nat) : Fn := ⟨1, 3, [], (.cons (.asg 1 (.call i_counts_of none (.cons (.bor 0) .nil)))
    (.cons (.ret (.comp [2] .seq (.cons (.op .sorted (.cons (.bor 1) .nil)) .nil) (.tst (.op .gt (.cons (.op .idx (.cons (.bor 1) (.cons (.bor 2) .nil))) (.cons (.cst (.int 1)) .nil)))) (.var 2)))
    .nil))⟩
/-- is_sparse_of
 -/
def g_is_sparse_of (i_often_of : Nat) : Fn := ⟨1, 1, [], (.cons (.ret (.op .eq (.cons (.call i_often_of none (.cons (.bor 0) .nil)) (.cons (.lst .nil) .nil))))
    .nil)⟩
/-- is_wide_of
 -/
def g_is_wide_of (i_left_of : Nat) : Fn := ⟨1, 1, [], (.cons (.ret (.op .eq (.cons (.call i_left_of none (.cons (.bor 0) .nil)) (.cons (.lst .nil) .nil))))
    .nil)⟩
/-- is_perfect_of
 -/
def g_is_perfect_of (i_is_wide_of : Nat) (i_is_sparse_of : Nat) : Fn := ⟨1, 1, [], (.cons (.ret (.and (.call i_is_sparse_of none (.cons (.bor 0) .nil)) (.call i_is_wide_of none (.cons (.bor 0) .nil))))
    .nil)⟩
/-- is_perfect
 -/
def g_is_perfect (i_is_perfect_of : Nat) (i_want_lot : Nat) : Fn := ⟨1, 1, [], (.cons (.ret (.call i_is_perfect_of none (.cons (.call i_want_lot none (.cons (.bor 0) .nil)) .nil)))
    .nil)⟩
/-- _law_plane
 -/
def g__law_plane (i__law_all_triples : Nat) (i__law_xor : Nat) : Fn := ⟨1, 7, [], (.cons (.par [2, 3] (.cons (.cst (.int 2)) (.cons (.lst .nil) .nil)))
    (.cons (.loop [1] .range1 (.cons (.op .sub (.cons (.bor 0) (.cons (.cst (.int 1)) .nil))) .nil) (.cons (.asg 2 (.op .mul (.cons (.bor 2) (.cons (.cst (.int 2)) .nil))))
    .nil))
    (.cons (.loop [4, 5, 6] .seq (.cons (.call i__law_all_triples none (.cons (.op .sub (.cons (.bor 2) (.cons (.cst (.int 1)) .nil))) .nil)) .nil) (.cons (.ite (.tst (.op .eq (.cons (.call i__law_xor none (.cons (.call i__law_xor none (.cons (.op .add (.cons (.bor 4) (.cons (.cst (.int 1)) .nil))) (.cons (.op .add (.cons (.bor 5) (.cons (.cst (.int 1)) .nil))) .nil))) (.cons (.op .add (.cons (.bor 6) (.cons (.cst (.int 1)) .nil))) .nil))) (.cons (.cst (.int 0)) .nil)))) (.cons (.ex (.mut .append 3 (.cons (.tup (.cons (.var 4) (.cons (.var 5) (.cons (.var 6) .nil)))) .nil)))
    .nil) .nil)
    .nil))
    (.cons (.ret (.tup (.cons (.cst (.str "lot")) (.cons (.op .sub (.cons (.bor 2) (.cons (.cst (.int 1)) .nil))) (.cons (.op .tuple (.cons (.bor 3) .nil)) .nil)))))
    .nil))))⟩
/-- _law_xor
 -/
def g__law_xor : Fn := ⟨2, 4, [], (.cons (.unp [.v 2, .v 3] (.tup (.cons (.cst (.int 0)) (.cons (.cst (.int 1)) .nil))))
    (.cons (.whl (.tst (.op .gt (.cons (.op .add (.cons (.bor 0) (.cons (.bor 1) .nil))) (.cons (.cst (.int 0)) .nil)))) (.cons (.asg 2 (.op .add (.cons (.bor 2) (.cons (.op .mul (.cons (.bor 3) (.cons (.op .int (.cons (.op .ne (.cons (.op .sub (.cons (.bor 0) (.cons (.op .mul (.cons (.op .fdiv (.cons (.bor 0) (.cons (.cst (.int 2)) .nil))) (.cons (.cst (.int 2)) .nil))) .nil))) (.cons (.op .sub (.cons (.bor 1) (.cons (.op .mul (.cons (.op .fdiv (.cons (.bor 1) (.cons (.cst (.int 2)) .nil))) (.cons (.cst (.int 2)) .nil))) .nil))) .nil))) .nil)) .nil))) .nil))))
    (.cons (.par [0, 1, 3] (.cons (.op .fdiv (.cons (.bor 0) (.cons (.cst (.int 2)) .nil))) (.cons (.op .fdiv (.cons (.bor 1) (.cons (.cst (.int 2)) .nil))) (.cons (.op .mul (.cons (.bor 3) (.cons (.cst (.int 2)) .nil))) .nil))))
    .nil)))
    (.cons (.ret (.mv 2))
    .nil)))⟩
/-- _law_sign
 -/
def g__law_sign (i__law_xor : Nat) : Fn := ⟨1, 3, [], (.cons (.asg 1 (.cst (.int 0)))
    (.cons (.loop [2] .seq (.cons (.var 0) .nil) (.cons (.asg 1 (.call i__law_xor none (.cons (.bor 1) (.cons (.op .add (.cons (.bor 2) (.cons (.cst (.int 1)) .nil))) .nil))))
    .nil))
    (.cons (.ret (.mv 1))
    .nil)))⟩
/-- _law_right
 -/
def k73_g__law_right (i_mended : Nat) (i_far_apart : Nat) (i__law_word : Nat) (i_made_words : Nat) (i__law_draw : Nat) (i__law_sum : Nat) (i_is_made : Nat) (i_sign : Nat) (i__law_sign : Nat) (i_rank : Nat) (i_is_perfect : Nat) (i_plane : Nat) (i__law_plane : Nat) : Fn := ⟨1, 12, [0], (.cons (.asg 1 (.op .add (.cons (.cst (.int 2)) (.cons (.call i__law_draw none (.cons (.bor 0) (.cons (.cst (.int 3)) .nil))) .nil))))
    (.cons (.asg 2 (.call i__law_plane none (.cons (.bor 1) .nil)))
    (.cons (.ite (.or (.tst (.op .ne (.cons (.op .repr (.cons (.lst (.cons (.call i_plane none (.cons (.bor 1) .nil)) (.cons (.call i_plane (some [0]) (.cons (.bor 1) .nil)) .nil))) .nil)) (.cons (.op .repr (.cons (.lst (.cons (.var 2) (.cons (.var 2) .nil))) .nil)) .nil)))) (.or (.tst (.op .isn (.cons (.call i_is_perfect none (.cons (.bor 2) .nil)) (.cons (.cst (.bool true)) .nil)))) (.tst (.op .ne (.cons (.call i_rank none (.cons (.bor 2) .nil)) (.cons (.op .sub (.cons (.op .idx (.cons (.bor 2) (.cons (.cst (.int 1)) .nil))) (.cons (.bor 1) .nil))) .nil)))))) (.cons (.ret (.cst (.bool false)))
    .nil) .nil)
    (.cons (.loop [3] .range1 (.cons (.cst (.int 4)) .nil) (.cons (.asg 4 (.call i__law_word none (.cons (.bor 0) (.cons (.op .idx (.cons (.bor 2) (.cons (.cst (.int 1)) .nil))) .nil))))
    (.cons (.asg 5 (.call i__law_sign none (.cons (.bor 4) .nil)))
    (.cons (.asg 6 (.ite (.tst (.op .eq (.cons (.bor 5) (.cons (.cst (.int 0)) .nil)))) (.var 4) (.call i__law_sum none (.cons (.bor 4) (.cons (.tup (.cons (.op .sub (.cons (.bor 5) (.cons (.cst (.int 1)) .nil))) .nil)) .nil)))))
    (.cons (.asg 7 (.lst (.cons (.call i_sign none (.cons (.bor 1) (.cons (.bor 4) .nil))) (.cons (.call i_mended none (.cons (.bor 1) (.cons (.bor 4) .nil))) (.cons (.call i_sign (some [1, 0]) (.cons (.bor 4) (.cons (.bor 1) .nil))) (.cons (.call i_mended (some [1, 0]) (.cons (.bor 4) (.cons (.bor 1) .nil))) .nil))))))
    (.cons (.ite (.or (.tst (.op .ne (.cons (.op .repr (.cons (.bor 7) .nil)) (.cons (.op .repr (.cons (.op .mul (.cons (.lst (.cons (.var 5) (.cons (.var 6) .nil))) (.cons (.cst (.int 2)) .nil))) .nil)) .nil)))) (.tst (.op .ne (.cons (.op .repr (.cons (.lst (.cons (.call i_is_made none (.cons (.bor 2) (.cons (.bor 6) .nil))) (.cons (.call i_is_made none (.cons (.bor 2) (.cons (.bor 4) .nil))) .nil))) .nil)) (.cons (.op .repr (.cons (.lst (.cons (.cst (.bool true)) (.cons (.op .eq (.cons (.bor 5) (.cons (.cst (.int 0)) .nil))) .nil))) .nil)) .nil))))) (.cons (.ret (.cst (.bool false)))
    .nil) .nil)
    (.cons (.ite (.or (.tst (.op .gt (.cons (.call i_far_apart none (.cons (.bor 4) (.cons (.bor 6) .nil))) (.cons (.cst (.int 1)) .nil)))) (.tst (.op .ne (.cons (.call i_mended none (.cons (.bor 1) (.cons (.bor 6) .nil))) (.cons (.bor 6) .nil))))) (.cons (.ret (.cst (.bool false)))
    .nil) .nil)
    (.cons (.loop [8] .seq (.cons (.tup (.cons (.cst (.int 0)) (.cons (.op .sub (.cons (.op .idx (.cons (.bor 2) (.cons (.cst (.int 1)) .nil))) (.cons (.cst (.int 1)) .nil))) (.cons (.call i__law_draw none (.cons (.bor 0) (.cons (.op .idx (.cons (.bor 2) (.cons (.cst (.int 1)) .nil))) .nil))) .nil)))) .nil) (.cons (.ite (.tst (.op .ne (.cons (.call i_mended none (.cons (.bor 1) (.cons (.call i__law_sum none (.cons (.bor 6) (.cons (.tup (.cons (.var 8) .nil)) .nil))) .nil))) (.cons (.bor 6) .nil)))) (.cons (.ret (.cst (.bool false)))
    .nil) .nil)
    .nil))
    .nil))))))))
    (.cons (.ite (.tst (.op .lt (.cons (.bor 1) (.cons (.cst (.int 4)) .nil)))) (.cons (.asg 9 (.call i_made_words none (.cons (.bor 2) .nil)))
    (.cons (.asg 4 (.call i__law_word none (.cons (.bor 0) (.cons (.op .idx (.cons (.bor 2) (.cons (.cst (.int 1)) .nil))) .nil))))
    (.cons (.asg 10 (.comp [11] .seq (.cons (.var 9) .nil) (.tst (.op .le (.cons (.call i_far_apart none (.cons (.bor 11) (.cons (.bor 4) .nil))) (.cons (.cst (.int 1)) .nil)))) (.var 11)))
    (.cons (.ite (.or (.tst (.op .ne (.cons (.bor 10) (.cons (.lst (.cons (.call i_mended none (.cons (.bor 1) (.cons (.bor 4) .nil))) .nil)) .nil)))) (.tst (.op .ne (.cons (.comp [11] .seq (.cons (.var 9) .nil) (.and (.tst (.op .ne (.cons (.bor 11) (.cons (.tup .nil) .nil)))) (.tst (.op .lt (.cons (.op .len (.cons (.bor 11) .nil)) (.cons (.cst (.int 3)) .nil))))) (.var 11)) (.cons (.lst .nil) .nil))))) (.cons (.ret (.cst (.bool false)))
    .nil) .nil)
    .nil)))) .nil)
    (.cons (.ret (.cst (.bool true)))
    .nil))))))⟩
/-- _law_without
 -/
def g__law_without : Fn := ⟨2, 3, [], (.cons (.ret (.op .add (.cons (.op (.slice false true) (.cons (.bor 0) (.cons (.cst (.int 2)) .nil))) (.cons (.tup (.cons (.op .tuple (.cons (.comp [2] .seq (.cons (.op .idx (.cons (.bor 0) (.cons (.cst (.int 2)) .nil))) .nil) (.tst (.op .ne (.cons (.bor 2) (.cons (.bor 1) .nil)))) (.var 2)) .nil)) .nil)) .nil))))
    .nil)⟩
/-- _law_paper_right
 -/
def g__law_paper_right (i__law_sum : Nat) (i_is_even_to : Nat) (i__law_is_odd : Nat) (i__law_is_even : Nat) (i_is_made : Nat) (i_is_word_paper : Nat) (i_word_paper : Nat) : Fn := ⟨2, 5, [], (.cons (.asg 2 (.call i_word_paper none (.cons (.bor 0) (.cons (.bor 1) .nil))))
    (.cons (.ite (.or (.not (.tst (.call i_is_word_paper none (.cons (.bor 0) (.cons (.bor 1) (.cons (.bor 2) .nil)))))) (.tst (.op .ne (.cons (.op .eq (.cons (.op .idx (.cons (.bor 2) (.cons (.cst (.int 0)) .nil))) (.cons (.cst (.str "sum")) .nil))) (.cons (.call i_is_made none (.cons (.bor 0) (.cons (.bor 1) .nil))) .nil))))) (.cons (.ret (.cst (.bool false)))
    .nil) .nil)
    (.cons (.ite (.tst (.op .eq (.cons (.op .idx (.cons (.bor 2) (.cons (.cst (.int 0)) .nil))) (.cons (.cst (.str "even")) .nil)))) (.cons (.ret (.and (.call i__law_is_even none (.cons (.bor 0) (.cons (.op .idx (.cons (.bor 2) (.cons (.cst (.int 1)) .nil))) .nil))) (.and (.call i__law_is_odd none (.cons (.bor 1) (.cons (.op .idx (.cons (.bor 2) (.cons (.cst (.int 1)) .nil))) .nil))) (.call i_is_even_to none (.cons (.bor 0) (.cons (.op .idx (.cons (.bor 2) (.cons (.cst (.int 1)) .nil))) .nil))))))
    .nil) .nil)
    (.cons (.asg 3 (.tup .nil))
    (.cons (.loop [4] .seq (.cons (.op .idx (.cons (.bor 2) (.cons (.cst (.int 1)) .nil))) .nil) (.cons (.asg 3 (.call i__law_sum none (.cons (.bor 3) (.cons (.bor 4) .nil))))
    .nil))
    (.cons (.ret (.and (.op .eq (.cons (.bor 3) (.cons (.bor 1) .nil))) (.op .eq (.cons (.comp [4] .seq (.cons (.op .idx (.cons (.bor 2) (.cons (.cst (.int 1)) .nil))) .nil) (.tst (.op .nin (.cons (.bor 4) (.cons (.op .idx (.cons (.bor 0) (.cons (.cst (.int 2)) .nil))) .nil)))) (.var 4)) (.cons (.lst .nil) .nil)))))
    .nil))))))⟩
/-- _law_right
 -/
def k75_g__law_right (i__law_paper_right : Nat) (i__law_word : Nat) (i_is_made : Nat) (i__law_without : Nat) (i_rank : Nat) (i__law_sum : Nat) (i_sign : Nat) (i__law_draw : Nat) (i_word_sum : Nat) (i__law_shuffled : Nat) (i__law_plane : Nat) (i_plane : Nat) : Fn := ⟨1, 11, [0], (.cons (.asg 1 (.op .add (.cons (.cst (.int 4)) (.cons (.call i__law_draw none (.cons (.bor 0) (.cons (.cst (.int 2)) .nil))) .nil))))
    (.cons (.asg 2 (.call i_plane none (.cons (.bor 1) .nil)))
    (.cons (.ite (.tst (.op .ne (.cons (.op .repr (.cons (.lst (.cons (.call i_rank none (.cons (.bor 2) .nil)) (.cons (.call i_rank none (.cons (.call i__law_plane none (.cons (.cst (.int 3)) .nil)) .nil)) (.cons (.call i_rank none (.cons (.tup (.cons (.cst (.str "lot")) (.cons (.cst (.int 9)) (.cons (.tup (.cons (.tup (.cons (.cst (.int 0)) (.cons (.cst (.int 1)) (.cons (.cst (.int 2)) .nil)))) (.cons (.tup (.cons (.cst (.int 3)) (.cons (.cst (.int 4)) (.cons (.cst (.int 5)) .nil)))) (.cons (.tup (.cons (.cst (.int 6)) (.cons (.cst (.int 7)) (.cons (.cst (.int 8)) .nil)))) .nil)))) .nil)))) .nil)) .nil)))) .nil)) (.cons (.op .repr (.cons (.lst (.cons (.op .sub (.cons (.op .idx (.cons (.bor 2) (.cons (.cst (.int 1)) .nil))) (.cons (.bor 1) .nil))) (.cons (.cst (.int 4)) (.cons (.cst (.int 3)) .nil)))) .nil)) .nil)))) (.cons (.ret (.cst (.bool false)))
    .nil) .nil)
    (.cons (.asg 3 (.op (.slice false true) (.cons (.call i__law_shuffled none (.cons (.bor 0) (.cons (.op .idx (.cons (.bor 2) (.cons (.cst (.int 2)) .nil))) .nil))) (.cons (.cst (.int 6)) .nil))))
    (.cons (.asg 4 (.tup .nil))
    (.cons (.loop [5] .seq (.cons (.var 3) .nil) (.cons (.asg 4 (.call i_word_sum none (.cons (.bor 4) (.cons (.bor 5) .nil))))
    .nil))
    (.cons (.asg 6 (.call i__law_draw none (.cons (.bor 0) (.cons (.op .idx (.cons (.bor 2) (.cons (.cst (.int 1)) .nil))) .nil))))
    (.cons (.ite (.or (.not (.tst (.call i__law_paper_right none (.cons (.bor 2) (.cons (.bor 4) .nil))))) (.or (.tst (.op .ne (.cons (.call i_sign none (.cons (.bor 1) (.cons (.bor 4) .nil))) (.cons (.cst (.int 0)) .nil)))) (.tst (.op .isn (.cons (.call i_is_made none (.cons (.bor 2) (.cons (.bor 4) .nil))) (.cons (.cst (.bool true)) .nil)))))) (.cons (.ret (.cst (.bool false)))
    .nil) .nil)
    (.cons (.asg 7 (.call i__law_sum none (.cons (.bor 4) (.cons (.tup (.cons (.var 6) .nil)) .nil))))
    (.cons (.ite (.or (.tst (.op .isn (.cons (.call i_is_made none (.cons (.bor 2) (.cons (.bor 7) .nil))) (.cons (.cst (.bool false)) .nil)))) (.or (.not (.tst (.call i__law_paper_right none (.cons (.bor 2) (.cons (.bor 7) .nil))))) (.not (.tst (.call i__law_paper_right none (.cons (.bor 2) (.cons (.call i__law_word none (.cons (.bor 0) (.cons (.op .idx (.cons (.bor 2) (.cons (.cst (.int 1)) .nil))) .nil))) .nil))))))) (.cons (.ret (.cst (.bool false)))
    .nil) .nil)
    (.cons (.asg 8 (.tup (.cons (.cst (.str "lot")) (.cons (.op .idx (.cons (.bor 2) (.cons (.cst (.int 1)) .nil))) (.cons (.op .tuple (.cons (.op .sorted (.cons (.bor 3) .nil)) .nil)) .nil)))))
    (.cons (.asg 9 (.call i_rank none (.cons (.bor 8) .nil)))
    (.cons (.loop [5] .seq (.cons (.op (.slice false true) (.cons (.bor 3) (.cons (.cst (.int 3)) .nil))) .nil) (.cons (.asg 10 (.call i_rank none (.cons (.call i__law_without none (.cons (.bor 8) (.cons (.bor 5) .nil))) .nil)))
    (.cons (.ite (.or (.tst (.op .nin (.cons (.bor 10) (.cons (.tup (.cons (.var 9) (.cons (.op .sub (.cons (.bor 9) (.cons (.cst (.int 1)) .nil))) .nil))) .nil)))) (.tst (.op .ne (.cons (.op .eq (.cons (.bor 10) (.cons (.bor 9) .nil))) (.cons (.call i_is_made none (.cons (.call i__law_without none (.cons (.bor 8) (.cons (.bor 5) .nil))) (.cons (.bor 5) .nil))) .nil))))) (.cons (.ret (.cst (.bool false)))
    .nil) .nil)
    .nil)))
    (.cons (.ret (.and (.call i__law_paper_right none (.cons (.bor 8) (.cons (.bor 4) .nil))) (.call i__law_paper_right none (.cons (.bor 8) (.cons (.call i__law_word none (.cons (.bor 0) (.cons (.op .idx (.cons (.bor 2) (.cons (.cst (.int 1)) .nil))) .nil))) .nil)))))
    .nil))))))))))))))⟩
end Mn
/-! Stage 11: what integers, rows, rising tuples, triples, lots are. -/
namespace Mn
open PySem
def isInt : D → Bool
  | .int _ => true
  | _ => false
def isCount : D → Bool
  | .int i => decide (0 ≤ i)
  | _ => false
def isBelow (n : Int) : D → Bool
  | .int i => decide (0 ≤ i) && decide (i < n)
  | _ => false
def isRow (k : Int) : D → Bool
  | .tuple xs => decide ((xs.length : Int) = k)
  | _ => false
/-- rising, of things below n -/
abbrev Word (n : Int) (w : List Int) : Prop := (∀ a ∈ w, 0 ≤ a ∧ a < n) ∧ w.Pairwise (· < ·)
def ints? : List D → Option (List Int)
  | [] => some []
  | .int i :: r => (ints? r).map (i :: ·)
  | _ => none
@[simp] theorem ints?_map : ∀ w : List Int, ints? (w.map .int) = some w
  | [] => rfl
  | a :: r => by simp [ints?, ints?_map r]
theorem ints?_eq : ∀ {xs : List D} {w : List Int}, ints? xs = some w → xs = w.map .int
  | [], w, h => by cases h; rfl
  | x :: r, w, h => by
    cases x with
    | int i =>
      simp only [ints?, Option.map_eq_some_iff] at h
      obtain ⟨v, h1, rfl⟩ := h
      rw [ints?_eq h1]; rfl
    | _ => cases h
def isWord (n : Int) : D → Bool
  | .tuple xs => match ints? xs with
    | some w => decide (Word n w)
    | none => false
  | _ => false
def isTrip (n : Int) : D → Bool
  | .tuple xs => match ints? xs with
    | some w => decide (w.length = 3 ∧ Word n w)
    | none => false
  | _ => false
theorem isWord_iff {n : Int} {x : D} : isWord n x = true ↔ ∃ w, x = tI w ∧ Word n w := by
  constructor
  · intro h
    cases x with
    | tuple xs =>
      simp only [isWord] at h
      cases e : ints? xs with
      | none => simp [e] at h
      | some w => exact ⟨w, by rw [ints?_eq e], by simpa [e] using h⟩
    | _ => cases h
  · rintro ⟨w, rfl, h⟩
    simpa [isWord] using h
theorem isTrip_iff {n : Int} {x : D} : isTrip n x = true ↔ ∃ w, x = tI w ∧ w.length = 3 ∧ Word n w := by
  constructor
  · intro h
    cases x with
    | tuple xs =>
      simp only [isTrip] at h
      cases e : ints? xs with
      | none => simp [e] at h
      | some w => exact ⟨w, by rw [ints?_eq e], by simpa [e] using h⟩
    | _ => cases h
  · rintro ⟨w, rfl, h⟩
    simpa [isTrip] using h
@[simp] theorem isWord_tI (n : Int) (w : List Int) : isWord n (.tuple (w.map .int)) = decide (Word n w) := by simp [isWord]
@[simp] theorem isTrip_tI (n : Int) (w : List Int) : isTrip n (.tuple (w.map .int)) = decide (w.length = 3 ∧ Word n w) := by simp [isTrip]
theorem all_below {n : Int} {xs : List D} : xs.all (isBelow n) = true ↔ ∃ w : List Int, xs = w.map .int ∧ ∀ a ∈ w, 0 ≤ a ∧ a < n := by
  constructor
  · intro h
    induction xs with
    | nil => exact ⟨[], rfl, by simp⟩
    | cons x r ih =>
      (simp only [List.all_cons, Bool.and_eq_true] at h)
      obtain ⟨w, e, g⟩ := ih h.2
      cases x with
      | int i =>
        refine ⟨i :: w, by rw [e]; rfl, fun a ha => ?_⟩
        rcases (List.mem_cons.mp ha) with e | ha
        · subst e; simpa [isBelow] using h.1
        · exact g a ha
      | _ => cases h.1
  · rintro ⟨w, rfl, h⟩
    simpa [isBelow] using h
theorem no_below {n : Int} {xs : List D} (h : xs.all (isBelow n) = false) : isWord n (.tuple xs) = false ∧ isTrip n (.tuple xs) = false := by
  constructor
  · cases e : isWord n (.tuple xs) with
    | false => rfl
    | true =>
      obtain ⟨w, e1, e2⟩ := isWord_iff.mp e
      have : xs.all (isBelow n) = true := all_below.mpr ⟨w, by cases e1; rfl, e2.1⟩
      rw [h] at this; cases this
  · cases e : isTrip n (.tuple xs) with
    | false => rfl
    | true =>
      obtain ⟨w, e1, _, e2⟩ := isTrip_iff.mp e
      have : xs.all (isBelow n) = true := all_below.mpr ⟨w, by cases e1; rfl, e2.1⟩
      rw [h] at this; cases this
section
variable {T : Nat → Option Fn} {glb : Nat → Option D} {fuel : Nat}
abbrev S_is_integer (T : Nat → Option Fn) (glb : Nat → Option D) (fuel i : Nat) : Prop := ∀ n (x : D), Ok x → callN T glb fuel (n + 1) i [.d x] = .ok (.d (.bool (isInt x)), [none])
theorem s_is_integer {i : Nat} (h : T i = some g_is_integer) : S_is_integer T glb fuel i := by
  intro n x hx
  apply of_wp
  rw [w_fn h rfl rfl]
  cases x <;> simp [isInt]
  cases hx.plain
abbrev S_is_count (T : Nat → Option Fn) (glb : Nat → Option D) (fuel i : Nat) : Prop := ∀ n (x : D), Ok x → callN T glb fuel (n + 2) i [.d x] = .ok (.d (.bool (isCount x)), [none])
theorem s_is_count {i j : Nat} (h : T i = some (g_is_count j)) (h1 : S_is_integer T glb fuel j) : S_is_count T glb fuel i := by
  intro n x hx
  apply of_wp
  rw [w_fn h rfl rfl]
  simp [h1 n x hx]
  cases x <;> simp [isInt, isCount]
abbrev S_is_below (T : Nat → Option Fn) (glb : Nat → Option D) (fuel i : Nat) : Prop := ∀ n (x : D) (m : Int), Ok x → callN T glb fuel (n + 3) i [.d x, .d (.int m)] = .ok (.d (.bool (isBelow m x)), [none, none])
theorem s_is_below {i j : Nat} (h : T i = some (g_is_below j)) (h1 : S_is_count T glb fuel j) : S_is_below T glb fuel i := by
  intro n x m hx
  apply of_wp
  rw [w_fn h rfl rfl]
  simp [h1 n x hx]
  cases x <;> simp [isBelow, isCount]
  split <;> simp [*]
abbrev S_is_row (T : Nat → Option Fn) (glb : Nat → Option D) (fuel i : Nat) : Prop := ∀ n (x : D) (m : Int), Ok x → callN T glb fuel (n + 1) i [.d x, .d (.int m)] = .ok (.d (.bool (isRow m x)), [none, none])
theorem s_is_row {i : Nat} (h : T i = some g_is_row) : S_is_row T glb fuel i := by
  intro n x m hx
  apply of_wp
  rw [w_fn h rfl rfl]
  cases x <;> simp [isRow]
  cases hx.plain
/-- is_rising of a tuple of ints, of tuples of ints -/
abbrev S_is_rising (T : Nat → Option Fn) (glb : Nat → Option D) (fuel i : Nat) : Prop := ∀ n, (∀ w : List Int, w.length ≤ line → callN T glb fuel (n + 1) i [.d (tI w)] = .ok (.d (.bool (decide (w.Pairwise (· < ·)))), [none])) ∧ (∀ w : List (List Int), w.length ≤ line → callN T glb fuel (n + 1) i [.d (.tuple (w.map tI))] = .ok (.d (.bool (decide (w.Pairwise (· < ·)))), [none]))
theorem s_is_rising {i : Nat} (h : T i = some g_is_rising) : S_is_rising T glb fuel i := by
  intro n
  refine ⟨fun w hl => ?_, fun w hl => ?_⟩
  · apply of_wp
    rw [w_fn h rfl rfl]
    simp
    rw [zip_adj]
    refine comp_map (fun p => .bool (decide (p.1 < p.2))) (Nat.le_trans (adj_len w) hl) (fun p hp => by simp) ?_
    have e : ((adj w).all fun p => decide (p.1 < p.2)) = decide (w.Pairwise (· < ·)) := by
      rw [Bool.eq_iff_iff]
      simp [adjI']
    simp [e]
  · apply of_wp
    rw [w_fn h rfl rfl]
    simp
    rw [zip_adj]
    refine comp_map (fun p => .bool (decide (p.1 < p.2))) (Nat.le_trans (adj_len w) hl) (fun p hp => by simp) ?_
    have e : ((adj w).all fun p => decide (p.1 < p.2)) = decide (w.Pairwise (· < ·)) := by
      rw [Bool.eq_iff_iff]
      simp [adjT']
    simp [e]
abbrev S_is_triple_in (T : Nat → Option Fn) (glb : Nat → Option D) (fuel i : Nat) : Prop := ∀ n (m : Int) (x : D), Ok x → callN T glb fuel (n + 4) i [.d (.int m), .d x] = .ok (.d (.bool (isTrip m x)), [none, none])
theorem s_is_triple_in {i j1 j2 j3 : Nat} (h : T i = some (g_is_triple_in j1 j2 j3)) (h1 : S_is_rising T glb fuel j1) (h2 : S_is_below T glb fuel j2) (h3 : S_is_row T glb fuel j3) : S_is_triple_in T glb fuel i := by
  intro n m x hx
  apply of_wp
  rw [w_fn h rfl rfl]
  cases x with
  | tuple xs =>
    simp [h3 _ _ _ hx, isRow]
    by_cases hl : (xs.length : Int) = 3
    · simp [hl]
      refine comp_mapD (fun y => .bool (isBelow m y)) hx.len (fun y hy => by simp [h2 _ y m (hx.sub y hy)]) ?_
      cases hb : xs.all fun a => isBelow m a with
      | false => simp [hb, (no_below hb).2]
      | true =>
        simp [hb]
        obtain ⟨w, rfl, hw⟩ := all_below.mp hb
        have hl' : w.length = 3 := by simpa using (by exact_mod_cast hl : (w.map PyData.int).length = 3)
        have hw' : (∀ a ∈ w, 0 ≤ a ∧ a < m) := hw
        simp [(h1 _).1 w (by rw [hl']; decide), Word, hl']
        exact fun _ => hw'
    · simp [hl]
      cases e : isTrip m (.tuple xs) with
      | false => rfl
      | true =>
        obtain ⟨w, e1, e2, _⟩ := isTrip_iff.mp e
        cases e1
        exact absurd (by simp [e2]) hl
  | _ => simp [h3 _ _ _ hx, isRow, isTrip]
/-- a lot: 3 to 45 things, rising triples -/
structure Lot (n : Int) (ts : List (List Int)) : Prop where
  lo : 3 ≤ n
  hi : n ≤ 45
  tr : ∀ t ∈ ts, t.length = 3 ∧ Word n t
  ri : ts.Pairwise (· < ·)
  few : ts.length ≤ 20000
abbrev lotD (n : Int) (ts : List (List Int)) : D := .tuple [.str "lot", .int n, .tuple (ts.map tI)]
abbrev S_is_number (T : Nat → Option Fn) (glb : Nat → Option D) (fuel i : Nat) : Prop := ∀ n (x : D), Ok x → callN T glb fuel (n + 2) i [.d x] = .ok (.d (.bool (match x with | .int i => decide (3 ≤ i ∧ i ≤ 45) | _ => false)), [none])
theorem s_is_number {i j k1 k2 : Nat} (h : T i = some (g_is_number k1 k2 j)) (h1 : S_is_integer T glb fuel j) (e1 : glb k1 = some (.int 3)) (e2 : glb k2 = some (.int 45)) : S_is_number T glb fuel i := by
  intro n x hx
  apply of_wp
  rw [w_fn h rfl rfl]
  cases x <;> simp [h1 _ _ hx, isInt, e1, e2]
  split <;> simp [*]
def unT : D → Option (List Int)
  | .tuple xs => ints? xs
  | _ => none
theorem unT_map (ws : List (List Int)) : (ws.map tI).filterMap unT = ws := by
  induction ws with
  | nil => rfl
  | cons a r ih =>
    have : unT (tI a) = some a := ints?_map a
    rw [List.map_cons, List.filterMap_cons, this, ih]
theorem ok_lot {n : Int} {ts : List (List Int)} (h : Lot n ts) : Ok (lotD n ts) := by
  simp only [lotD, nice_tuple]
  refine ⟨by simp, fun y hy => ?_⟩
  simp only [List.mem_cons, List.not_mem_nil, or_false] at hy
  rcases hy with rfl | rfl | rfl
  · simp
  · simp
  · exact nice_tups (k := 37) (Nat.le_trans h.few (by decide)) fun t ht => by rw [(h.tr t ht).1]; decide
theorem all_trip {n : Int} {ts : List D} : ts.all (isTrip n) = true ↔ ∃ ws : List (List Int), ts = ws.map tI ∧ ∀ t ∈ ws, t.length = 3 ∧ Word n t := by
  constructor
  · intro h
    induction ts with
    | nil => exact ⟨[], rfl, by simp⟩
    | cons x r ih =>
      (simp only [List.all_cons, Bool.and_eq_true] at h)
      obtain ⟨ws, e, g⟩ := ih h.2
      obtain ⟨w, e1, e2⟩ := isTrip_iff.mp h.1
      exact ⟨w :: ws, by rw [e, e1]; rfl, by simpa using ⟨e2, g⟩⟩
  · rintro ⟨ws, rfl, h⟩
    simp only [List.all_map, List.all_eq_true, Function.comp]
    intro t ht
    exact isTrip_iff.mpr ⟨t, rfl, h t ht⟩
theorem ok_trip {t : List Int} (h : t.length = 3) : Ok (tI t) := nice_ints (by rw [h]; decide)
abbrev S_is_lot_of (T : Nat → Option Fn) (glb : Nat → Option D) (fuel i : Nat) : Prop := ∀ n (m : Int) (ts : List (List Int)), Lot m ts → callN T glb fuel (n + 5) i [.d (lotD m ts)] = .ok (.d (.bool true), [none])
theorem s_is_lot_of {i j1 j2 j3 j5 k4 : Nat} (h : T i = some (g_is_lot_of j1 j2 j3 k4 j5)) (h1 : S_is_rising T glb fuel j1) (h2 : S_is_triple_in T glb fuel j2) (h3 : S_is_number T glb fuel j3) (h5 : S_is_row T glb fuel j5) (e4 : glb k4 = some (.str "lot")) : S_is_lot_of T glb fuel i := by
  intro n m ts L
  apply of_wp
  rw [w_fn h rfl rfl]
  simp [h5 _ _ _ (ok_lot L), h3 _ _ _, e4, isRow, L.lo, L.hi]
  have hl : ts.length ≤ line := Nat.le_trans L.few (by decide)
  refine comp_map (fun t => .bool (isTrip m (tI t))) hl (fun t ht => by simp [h2 _ _ _ (ok_trip (L.tr t ht).1)]) ?_
  have e : ts.all (fun t => isTrip m (tI t)) = true := by
    simp only [List.all_eq_true]
    exact fun t ht => isTrip_iff.mpr ⟨t, rfl, L.tr t ht⟩
  simp [e, (h1 _).2 ts hl, L.ri]
  exact L.tr
abbrev S_want_lot (T : Nat → Option Fn) (glb : Nat → Option D) (fuel i : Nat) : Prop := ∀ n (m : Int) (ts : List (List Int)), Lot m ts → callN T glb fuel (n + 6) i [.d (lotD m ts)] = .ok (.d (lotD m ts), [none])
theorem s_want_lot {i j : Nat} (h : T i = some (g_want_lot j)) (h1 : S_is_lot_of T glb fuel j) : S_want_lot T glb fuel i := by
  intro n m ts L
  apply of_wp
  rw [w_fn h rfl rfl]
  simp [h1 _ _ _ L]
abbrev S_is_word_of (T : Nat → Option Fn) (glb : Nat → Option D) (fuel i : Nat) : Prop := ∀ n (m : Int) (x : D), Ok x → callN T glb fuel (n + 4) i [.d (.int m), .d x] = .ok (.d (.bool (isWord m x)), [none, none])
theorem s_is_word_of {i j1 j2 : Nat} (h : T i = some (g_is_word_of j1 j2)) (h1 : S_is_rising T glb fuel j1) (h2 : S_is_below T glb fuel j2) : S_is_word_of T glb fuel i := by
  intro n m x hx
  apply of_wp
  rw [w_fn h rfl rfl]
  cases x with
  | tuple xs =>
    simp
    refine comp_mapD (fun y => .bool (isBelow m y)) hx.len (fun y hy => by simp [h2 _ y m (hx.sub y hy)]) ?_
    cases hb : xs.all fun a => isBelow m a with
    | false => simp [hb, (no_below hb).1]
    | true =>
      simp [hb]
      obtain ⟨w, rfl, hw⟩ := all_below.mp hb
      have hl := hx.len
      simp at hl
      simp [(h1 _).1 w hl, Word]
      exact fun _ => hw
  | dict _ => cases hx.plain
  | _ => simp [isWord]
abbrev S_want_word (T : Nat → Option Fn) (glb : Nat → Option D) (fuel i : Nat) : Prop := ∀ n (m : Int) (w : List Int), Word m w → w.length ≤ 1000000 → callN T glb fuel (n + 5) i [.d (.int m), .d (tI w)] = .ok (.d (tI w), [none, none])
theorem s_want_word {i j : Nat} (h : T i = some (g_want_word j)) (h1 : S_is_word_of T glb fuel j) : S_want_word T glb fuel i := by
  intro n m w hw hl
  apply of_wp
  rw [w_fn h rfl rfl]
  have e : isWord m (tI w) = true := isWord_iff.mpr ⟨w, rfl, hw⟩
  simp [h1 _ _ _ (nice_ints hl), e]
abbrev S_want_told (T : Nat → Option Fn) (glb : Nat → Option D) (fuel i : Nat) : Prop := ∀ n (m : Int) (ts : List (List Int)) (w : List Int), Lot m ts → Word m w → w.length ≤ 1000000 → callN T glb fuel (n + 7) i [.d (lotD m ts), .d (tI w)] = .ok (.d .none, [none, none])
theorem s_want_told {i j1 j2 : Nat} (h : T i = some (g_want_told j1 j2)) (h1 : S_want_word T glb fuel j1) (h2 : S_want_lot T glb fuel j2) : S_want_told T glb fuel i := by
  intro n m ts w L hw hl
  apply of_wp
  rw [w_fn h rfl rfl]
  simp [h2 _ _ _ L, h1 _ _ _ hw hl]
end
end Mn
/-! Stage 11: sums of words, of rows of triples. -/
namespace Mn
open PySem
section
variable {α : Type} [BEq α] [LawfulBEq α]
def symd (a b : List α) : List α := a.filter (fun x => !decide (x ∈ b)) ++ b.filter (fun x => !decide (x ∈ a))
theorem mem_symd {a b : List α} {x : α} : x ∈ symd a b ↔ (x ∈ a ∧ x ∉ b) ∨ (x ∈ b ∧ x ∉ a) := by simp [symd]
theorem nodup_symd {a b : List α} (ha : a.Nodup) (hb : b.Nodup) : (symd a b).Nodup := by
  unfold symd
  rw [List.nodup_append]
  refine ⟨ha.filter _, hb.filter _, fun x hx y hy e => ?_⟩
  subst e
  simp at hx hy
  exact hy.2 hx.1
theorem len_symd (a b : List α) : (symd a b).length ≤ a.length + b.length := by
  unfold symd
  rw [List.length_append]
  exact Nat.add_le_add (List.length_filter_le ..) (List.length_filter_le ..)
theorem count_split (p q : α → Bool) (a : List α) : a.countP p = (a.filter q).countP p + (a.filter fun x => !q x).countP p := by
  induction a with
  | nil => simp
  | cons x r ih =>
    by_cases h : q x = true <;> by_cases g : p x = true <;> simp [List.filter_cons, List.countP_cons, h, g, ih] <;> omega
theorem count_symd {a b : List α} (p : α → Bool) (ha : a.Nodup) (hb : b.Nodup) : ∃ k, a.countP p + b.countP p = (symd a b).countP p + 2 * k := by
  refine ⟨(a.filter fun x => decide (x ∈ b)).countP p, ?_⟩
  have e1 := count_split p (fun x => decide (x ∈ b)) a
  have e2 := count_split p (fun x => decide (x ∈ a)) b
  have e3 : ((a.filter fun x => decide (x ∈ b))).Perm (b.filter fun x => decide (x ∈ a)) := (List.perm_ext_iff_of_nodup (ha.filter _) (hb.filter _)).mpr fun x => by simp [and_comm]
  have e4 := e3.countP_eq p
  unfold symd
  rw [List.countP_append]
  omega
end
def sumW (a b : List Int) : List Int := sortI (symd a b)
def sumT (a b : List (List Int)) : List (List Int) := sortT (symd a b)
theorem mem_sumW {a b : List Int} {x : Int} : x ∈ sumW a b ↔ (x ∈ a ∧ x ∉ b) ∨ (x ∈ b ∧ x ∉ a) := by rw [sumW, mem_sortI, mem_symd]
theorem mem_sumT {a b : List (List Int)} {x : List Int} : x ∈ sumT a b ↔ (x ∈ a ∧ x ∉ b) ∨ (x ∈ b ∧ x ∉ a) := by rw [sumT, mem_sortT, mem_symd]
theorem len_sumW (a b : List Int) : (sumW a b).length ≤ a.length + b.length := by
  rw [sumW, (perm_sortI _).length_eq]
  exact len_symd a b
theorem len_sumT (a b : List (List Int)) : (sumT a b).length ≤ a.length + b.length := by
  rw [sumT, (perm_sortT _).length_eq]
  exact len_symd a b
abbrev Ris {α : Type} [LT α] (a : List α) : Prop := a.Pairwise (· < ·)
theorem ris_sumW {a b : List Int} (ha : Ris a) (hb : Ris b) : Ris (sumW a b) := ris_sortI (nodup_symd (nodup_risI ha) (nodup_risI hb))
theorem ris_sumT {a b : List (List Int)} (ha : Ris a) (hb : Ris b) : Ris (sumT a b) := ris_sortT (nodup_symd (nodup_risT ha) (nodup_risT hb))
theorem word_sumW {n : Int} {a b : List Int} (ha : Word n a) (hb : Word n b) : Word n (sumW a b) := ⟨fun x hx => by
  rcases mem_sumW.mp hx with h | h
  · exact ha.1 x h.1
  · exact hb.1 x h.1, ris_sumW ha.2 hb.2⟩
theorem count_sumW {a b : List Int} (p : Int → Bool) (ha : Ris a) (hb : Ris b) : ∃ k, a.countP p + b.countP p = (sumW a b).countP p + 2 * k := by
  obtain ⟨k, h⟩ := count_symd p (nodup_risI ha) (nodup_risI hb)
  exact ⟨k, by rw [sumW, (perm_sortI _).countP_eq p, h]⟩
theorem count_sumT {a b : List (List Int)} (p : List Int → Bool) (ha : Ris a) (hb : Ris b) : ∃ k, a.countP p + b.countP p = (sumT a b).countP p + 2 * k := by
  obtain ⟨k, h⟩ := count_symd p (nodup_risT ha) (nodup_risT hb)
  exact ⟨k, by rw [sumT, (perm_sortT _).countP_eq p, h]⟩
theorem sumW_nil {a : List Int} (ha : Ris a) : sumW [] a = a := risI_ext (ris_sumW .nil ha) ha fun x => by simp [mem_sumW]
theorem sumW_nil' {a : List Int} (ha : Ris a) : sumW a [] = a := risI_ext (ris_sumW ha .nil) ha fun x => by simp [mem_sumW]
theorem sumW_self {a : List Int} (ha : Ris a) : sumW a a = [] := risI_ext (ris_sumW ha ha) .nil fun x => by simp [mem_sumW]
theorem sumW_comm {a b : List Int} (ha : Ris a) (hb : Ris b) : sumW a b = sumW b a := risI_ext (ris_sumW ha hb) (ris_sumW hb ha) fun x => by simp [mem_sumW, or_comm]
theorem sumW_assoc {a b c : List Int} (ha : Ris a) (hb : Ris b) (hc : Ris c) : sumW (sumW a b) c = sumW a (sumW b c) := risI_ext (ris_sumW (ris_sumW ha hb) hc) (ris_sumW ha (ris_sumW hb hc)) fun x => by
  simp only [mem_sumW]
  by_cases h1 : x ∈ a <;> by_cases h2 : x ∈ b <;> by_cases h3 : x ∈ c <;> simp [h1, h2, h3]
theorem sumW_eq_nil {a b : List Int} (ha : Ris a) (hb : Ris b) : sumW a b = [] ↔ a = b := by
  constructor
  · intro h
    refine risI_ext ha hb fun x => ?_
    have : x ∉ sumW a b := by rw [h]; simp
    rw [mem_sumW] at this
    by_cases h1 : x ∈ a <;> by_cases h2 : x ∈ b <;> simp_all
  · rintro rfl
    exact sumW_self ha
/-- the sum of all -/
def sig (ts : List (List Int)) : List Int := ts.foldl sumW []
theorem sig_snoc (ts : List (List Int)) (t : List Int) : sig (ts ++ [t]) = sumW (sig ts) t := by simp [sig]
theorem snoc_ind {α : Type} {P : List α → Prop} (h0 : P []) (h : ∀ l a, P l → P (l ++ [a])) (l : List α) : P l := by
  rw [← List.reverse_reverse l]
  induction l.reverse with
  | nil => exact h0
  | cons a r ih => rw [List.reverse_cons]; exact h _ a ih
theorem word_sig {n : Int} {ts : List (List Int)} : (∀ t ∈ ts, Word n t) → Word n (sig ts) := by
  induction ts using snoc_ind with
  | h0 => exact fun _ => ⟨by simp [sig], .nil⟩
  | h l a ih =>
    intro h
    rw [sig_snoc]
    exact word_sumW (ih fun t ht => h t (by simp [ht])) (h a (by simp))
theorem ris_sig {ts : List (List Int)} : (∀ t ∈ ts, Ris t) → Ris (sig ts) := by
  induction ts using snoc_ind with
  | h0 => exact fun _ => .nil
  | h l a ih =>
    intro h
    rw [sig_snoc]
    exact ris_sumW (ih fun t ht => h t (by simp [ht])) (h a (by simp))
theorem mem_sig {x : Int} (ts : List (List Int)) : x ∈ sig ts ↔ (ts.countP fun t => decide (x ∈ t)) % 2 = 1 := by
  induction ts using snoc_ind with
  | h0 => simp [sig]
  | h l a ih =>
    rw [sig_snoc, mem_sumW, List.countP_append, List.countP_cons, List.countP_nil, ih]
    by_cases h : x ∈ a <;> simp [h] <;> omega
theorem sig_sumT {a b : List (List Int)} (ha : Ris a) (hb : Ris b) (h1 : ∀ t ∈ a, Ris t) (h2 : ∀ t ∈ b, Ris t) : sig (sumT a b) = sumW (sig a) (sig b) := by
  refine risI_ext (ris_sig fun t ht => ?_) (ris_sumW (ris_sig h1) (ris_sig h2)) fun x => ?_
  · rcases mem_sumT.mp ht with h | h
    · exact h1 t h.1
    · exact h2 t h.1
  · obtain ⟨k, h⟩ := count_sumT (fun t => decide (x ∈ t)) ha hb
    rw [mem_sumW, mem_sig, mem_sig, mem_sig]
    omega
theorem sig_one {t : List Int} (h : Ris t) : sig [t] = t := sumW_nil h
/-- odd together -/
def dot (w e : List Int) : Bool := decide ((w.countP fun x => decide (x ∈ e)) % 2 = 1)
theorem dot_sumW {a b e : List Int} (ha : Ris a) (hb : Ris b) : dot (sumW a b) e = (dot a e ^^ dot b e) := by
  obtain ⟨k, h⟩ := count_sumW (fun x => decide (x ∈ e)) ha hb
  unfold dot
  rw [Bool.eq_iff_iff]
  by_cases h1 : (a.countP fun x => decide (x ∈ e)) % 2 = 1 <;> by_cases h2 : (b.countP fun x => decide (x ∈ e)) % 2 = 1 <;> simp [h1, h2] <;> omega
theorem dot_nil (e : List Int) : dot [] e = false := by simp [dot]
theorem dot_sig {ts : List (List Int)} {e : List Int} : (∀ t ∈ ts, Ris t) → (∀ t ∈ ts, dot t e = false) → dot (sig ts) e = false := by
  induction ts using snoc_ind with
  | h0 => exact fun _ _ => dot_nil e
  | h l a ih =>
    intro h g
    rw [sig_snoc, dot_sumW (ris_sig fun t ht => h t (by simp [ht])) (h a (by simp)), ih (fun t ht => h t (by simp [ht])) (fun t ht => g t (by simp [ht])), g a (by simp)]
    rfl
section
variable {T : Nat → Option Fn} {glb : Nat → Option D} {fuel : Nat}
abbrev S_sum_of (T : Nat → Option Fn) (glb : Nat → Option D) (fuel i : Nat) : Prop := ∀ n, (∀ a b : List Int, a.length + b.length ≤ 1000000 → callN T glb fuel (n + 1) i [.d (tI a), .d (tI b)] = .ok (.d (tI (sumW a b)), [none, none])) ∧ (∀ a b : List (List Int), a.length + b.length ≤ 1000000 → [] ∉ a → [] ∉ b → callN T glb fuel (n + 1) i [.d (.tuple (a.map tI)), .d (.tuple (b.map tI))] = .ok (.d (.tuple ((sumT a b).map tI)), [none, none]))
theorem s_sum_of {i : Nat} (h : T i = some g_sum_of) : S_sum_of T glb fuel i := by
  intro n
  have hline : line = 16777216 := rfl
  refine ⟨fun a b hl => ?_, fun a b hl h1 h2 => ?_⟩
  · apply of_wp
    rw [w_fn h rfl rfl]
    simp
    refine comp_fil (fun x => !decide (x ∈ b)) .int (by omega) (fun x hx => by by_cases g : x ∈ b <;> simp [g]) ?_
    simp
    refine comp_fil (fun x => !decide (x ∈ a)) .int (by omega) (fun x hx => by by_cases g : x ∈ a <;> simp [g]) ?_
    have e : (a.filter fun x => !decide (x ∈ b)).length + (b.filter fun x => !decide (x ∈ a)).length ≤ line := by
      have := len_symd a b
      simp only [symd, List.length_append] at this
      omega
    have e2 : List.map PyData.int (List.filter (fun x => !decide (x ∈ b)) a) ++ List.map PyData.int (List.filter (fun x => !decide (x ∈ a)) b) = (symd a b).map .int := by simp [symd]
    simp [q_add_lm e]
    rw [e2]
    simp [sumW]
  · apply of_wp
    rw [w_fn h rfl rfl]
    simp
    refine comp_fil (fun x => !decide (x ∈ b)) tI (by omega) (fun x hx => by by_cases g : x ∈ b <;> simp [g]) ?_
    simp
    refine comp_fil (fun x => !decide (x ∈ a)) tI (by omega) (fun x hx => by by_cases g : x ∈ a <;> simp [g]) ?_
    have e : (a.filter fun x => !decide (x ∈ b)).length + (b.filter fun x => !decide (x ∈ a)).length ≤ line := by
      have := len_symd a b
      simp only [symd, List.length_append] at this
      omega
    have e2 : List.map tI (List.filter (fun x => !decide (x ∈ b)) a) ++ List.map tI (List.filter (fun x => !decide (x ∈ a)) b) = (symd a b).map tI := by simp [symd]
    have e3 : [] ∉ symd a b := by simp [mem_symd, h1, h2]
    simp [q_add_lm e]
    rw [e2]
    simp [sumT, q_sorted_lt e3]
end
end Mn
/-! Stage 11: the sums led by their first things. -/
namespace Mn
open PySem
/-- one that leads: its thing, its word, the triples that make it -/
abbrev Row := Int × List Int × List (List Int)
def rowD (p : Row) : D × D := (.int p.1, .tuple [tI p.2.1, .tuple (p.2.2.map tI)])
def look (x : Int) : List Row → Option (List Int × List (List Int))
  | [] => none
  | p :: r => if p.1 = x then some p.2 else look x r
theorem dfind_rows (x : Int) (rows : List Row) : dfind (.int x) (rows.map rowD) = (look x rows).map fun q => .tuple [tI q.1, .tuple (q.2.map tI)] := by
  induction rows with
  | nil => rfl
  | cons p r ih =>
    simp only [List.map_cons, rowD, dfind, look, eqv_int, decide_eq_true_eq]
    by_cases h : p.1 = x
    · simp [h]
    · simp only [h, if_false]
      exact ih
theorem keyed_rows (x : Int) (rows : List Row) : keyed (.int x) (rows.map rowD) = true := by
  simp [keyed, keyKind, keysOk, rowD]
theorem look_none {x : Int} {rows : List Row} : look x rows = none ↔ x ∉ rows.map (·.1) := by
  induction rows with
  | nil => simp [look]
  | cons p r ih =>
    simp only [look, List.map_cons, List.mem_cons, not_or]
    by_cases h : p.1 = x
    · simp [h]
    · simp only [h, if_false, ih]
      exact ⟨fun g => ⟨fun e => h e.symm, g⟩, fun g => g.2⟩
theorem look_some {x : Int} {rows : List Row} {q : List Int × List (List Int)} (h : look x rows = some q) : (x, q) ∈ rows := by
  induction rows with
  | nil => cases h
  | cons p r ih =>
    simp only [look] at h
    by_cases g : p.1 = x
    · simp only [g, if_true] at h
      cases h
      subst g
      exact List.mem_cons_self ..
    · simp only [g, if_false] at h
      exact (List.mem_cons_of_mem _ (ih h))
/-- sums of some words -/
inductive Span (rs : List (List Int)) : List Int → Prop
  | nil : Span rs []
  | add {w r : List Int} : Span rs w → r ∈ rs → Span rs (sumW w r)
theorem Span.mono {rs rs' : List (List Int)} (h : ∀ r ∈ rs, r ∈ rs') {w : List Int} (s : Span rs w) : Span rs' w := by
  induction s with
  | nil => exact .nil
  | add _ hr ih => exact .add ih (h _ hr)
theorem Span.ris {rs : List (List Int)} (h : ∀ r ∈ rs, Ris r) {w : List Int} (s : Span rs w) : Ris w := by
  induction s with
  | nil => exact .nil
  | add _ hr ih => exact ris_sumW ih (h _ hr)
theorem Span.sum {rs : List (List Int)} (h : ∀ r ∈ rs, Ris r) {w v : List Int} (s : Span rs w) (t : Span rs v) : Span rs (sumW w v) := by
  induction t with
  | nil =>
    rw [sumW_nil' (s.ris h)]
    exact s
  | add t hr ih =>
    rw [← sumW_assoc (s.ris h) (t.ris h) (h _ hr)]
    exact .add ih hr
theorem Span.one {rs : List (List Int)} (h : ∀ r ∈ rs, Ris r) {r : List Int} (hr : r ∈ rs) : Span rs r := by
  have := Span.add (.nil (rs := rs)) hr
  rwa [sumW_nil (h _ hr)] at this
theorem Span.dot {rs : List (List Int)} (h : ∀ r ∈ rs, Ris r) {e : List Int} (g : ∀ r ∈ rs, dot r e = false) {w : List Int} (s : Span rs w) : dot w e = false := by
  induction s with
  | nil => exact dot_nil e
  | add s hr ih =>
    rw [dot_sumW (s.ris h) (h _ hr), ih, g _ hr]
    rfl
structure Rows (n : Int) (ts : List (List Int)) (rows : List Row) : Prop where
  head : ∀ p ∈ rows, p.2.1.head? = some p.1
  word : ∀ p ∈ rows, Word n p.2.1
  ris : ∀ p ∈ rows, Ris p.2.2
  sub : ∀ p ∈ rows, ∀ t ∈ p.2.2, t ∈ ts
  sig : ∀ p ∈ rows, sig p.2.2 = p.2.1
  keys : (rows.map (·.1)).Nodup
  ech : rows.Pairwise fun p q => p.1 ∉ q.2.1
  span : ∀ t ∈ ts, Span (rows.map (·.2.1)) t
  few : rows.length ≤ ts.length
theorem rows_nil (n : Int) : Rows n [] [] := ⟨by simp, by simp, by simp, by simp, by simp, .nil, .nil, by simp, by simp⟩
structure RestOk (n : Int) (ts : List (List Int)) (rows : List Row) (w rest : List Int) (some_ : List (List Int)) : Prop where
  word : Word n rest
  free : ∀ x ∈ rest, x ∉ rows.map (·.1)
  ris : Ris some_
  sub : ∀ t ∈ some_, t ∈ ts
  sig : sig some_ = sumW w rest
  span : Span (rows.map (·.2.1)) (sumW w rest)
theorem len_ris {n : Int} : ∀ {w : List Int} {lo : Int}, (∀ a ∈ w, lo ≤ a ∧ a < n) → Ris w → (w.length : Int) ≤ n - lo ∨ w = []
  | [], _, _, _ => .inr rfl
  | a :: r, lo, h, g => by
    left
    have g' := List.pairwise_cons.mp g
    have h0 := h a (by simp)
    rcases len_ris (w := r) (lo := a + 1) (fun b hb => ⟨by have := g'.1 b hb; omega, (h b (by simp [hb])).2⟩) g'.2 with e | e
    · simp only [List.length_cons, Int.natCast_add]
      omega
    · subst e
      simp
      omega
theorem len_word {n : Int} {w : List Int} (hn : 0 ≤ n) (h : Word n w) : (w.length : Int) ≤ n := by
  rcases len_ris h.1 h.2 with e | e
  · omega
  · subst e; simpa using hn
theorem len_sub {α : Type} [BEq α] [LawfulBEq α] : ∀ {a b : List α}, a.Nodup → (∀ x ∈ a, x ∈ b) → a.length ≤ b.length
  | [], b, _, _ => by simp
  | x :: r, b, h, g => by
    have h' := (List.nodup_cons.mp h)
    have := len_sub (a := r) (b := b.erase x) h'.2 fun y hy => by
      have hne : y ≠ x := fun e => h'.1 (e ▸ hy)
      exact (List.mem_erase_of_ne hne).mpr (g y (by simp [hy]))
    have hx := g x (by simp)
    rw [List.length_erase_of_mem hx] at this
    have hp := List.length_pos_of_mem hx
    simp only [List.length_cons]
    omega
theorem split_ris (v : Int) : ∀ {w : List Int}, Ris w → w = w.filter (fun y => decide (y < v)) ++ w.filter (fun y => !decide (y < v))
  | [], _ => rfl
  | a :: r, h => by
    have h' := (List.pairwise_cons.mp h)
    by_cases g : a < v
    · have ih := split_ris v h'.2
      simp only [List.filter_cons, g, decide_true, if_true, Bool.not_true, Bool.false_eq_true, if_false, List.cons_append]
      exact congrArg _ ih
    · have e : r.filter (fun y => decide (y < v)) = [] := by
        rw [List.filter_eq_nil_iff]
        intro y hy
        have := h'.1 y hy
        simp
        omega
      have e2 : r.filter (fun y => !decide (y < v)) = r := by
        rw [List.filter_eq_self]
        intro y hy
        have := h'.1 y hy
        simp
        omega
      simp [List.filter_cons, g, e, e2]
section
variable {T : Nat → Option Fn} {glb : Nat → Option D} {fuel : Nat}
abbrev insD (c d : Nat) (rows : List Row) : M := .ins c [(d, .dic (rows.map rowD))]
@[simp] theorem q_in_rows {fr : Fr} {Q : M × Fr → Prop} (x : Int) (rows : List Row) : opQ .in_ [.int x, .dict (rows.map rowD)] fr Q = Q (.d (.bool (look x rows).isSome), fr) := opQ_of (by
  simp only [opsem, inS, keyed_rows, if_true, dfind_rows, bl]
  cases look x rows <;> rfl)
theorem q_idx_rows {fr : Fr} {Q : M × Fr → Prop} {x : Int} {rows : List Row} {q : List Int × List (List Int)} (h : look x rows = some q) : opQ .idx [.dict (rows.map rowD), .int x] fr Q = Q (.d (.tuple [tI q.1, .tuple (q.2.map tI)]), fr) := opQ_of (by
  simp only [opsem, idxS, keyed_rows, if_true, dfind_rows, h, Option.map_some])
def RestI (c d : Nat) (m : Int) (ts : List (List Int)) (rows : List Row) (w : List Int) (k : Nat) (fr : Fr) : Prop := ∃ (w' : List Int) (s : List (List Int)) (v : Int) (p : Nat) (a b : Option M), (Word m w' ∧ (∀ x ∈ w', x < v → x ∉ rows.map (·.1)) ∧ Ris s ∧ (∀ t ∈ s, t ∈ ts) ∧ sig s = sumW w w' ∧ Span (rows.map (·.2.1)) (sumW w w')) ∧ 0 ≤ v ∧ v ≤ m ∧ k = (m - v).toNat ∧ p = (w'.filter fun y => decide (y < v)).length ∧ fr = [some (insD c d rows), some (.d (tI w')), some (.d (.tuple (s.map tI))), some (.d (.int p)), a, b]
abbrev S_rest_of (T : Nat → Option Fn) (glb : Nat → Option D) (fuel c d i : Nat) : Prop := ∀ n (m : Int) (ts : List (List Int)) (rows : List Row) (w : List Int), Rows m ts rows → 0 ≤ m → m ≤ 45 → (∀ t ∈ ts, t.length = 3 ∧ Word m t) → ts.length ≤ 20000 → Word m w →
  ∃ rest some_, RestOk m ts rows w rest some_ ∧ callN T glb fuel (n + 2) i [insD c d rows, .d (tI w)] = .ok (.d (.tuple [tI rest, .tuple (some_.map tI)]), [some (insD c d rows), none])
theorem s_rest_of {i j c d : Nat} (h : T i = some (g_Leads_rest_of d j)) (h1 : S_sum_of T glb fuel j) (hf : 46 ≤ fuel) : S_rest_of T glb fuel c d i := by
  intro n m ts rows w R hm0 hm ht hl hw
  suffices hh : wp (callN T glb fuel (n + 2) i [insD c d rows, .d (tI w)]) fun q => ∃ rest some_, RestOk m ts rows w rest some_ ∧ q = (.d (.tuple [tI rest, .tuple (some_.map tI)]), [some (insD c d rows), none]) by
    obtain ⟨q, e, rest, some_, h1, h2⟩ := hh
    exact ⟨rest, some_, h1, by rw [e, h2]⟩
  rw [w_fn h rfl rfl]
  simp
  have hsub : ∀ s : List (List Int), Ris s → (∀ t ∈ s, t ∈ ts) → s.length ≤ 20000 := fun s h1 h2 => Nat.le_trans (len_sub (nodup_risT h1) h2) hl
  have hne : ∀ s : List (List Int), (∀ t ∈ s, t ∈ ts) → [] ∉ s := fun s h1 h2 => by
    have := (ht [] (h1 _ h2)).1
    cases this
  have hlw : ∀ v, Word m v → v.length ≤ 45 := fun v hv => by
    have := len_word hm0 hv
    omega
  refine whl_rule (RestI c d m ts rows w) ?_ (n := m.toNat) ?_ (by omega)
  · rintro k fr ⟨w', s, v, p, a, b, ⟨hw', hfree, hrs, hss, hsg, hsp⟩, hv0, hvm, rfl, hp, rfl⟩
    simp
    have hsplit := split_ris v hw'.2
    by_cases g : p < w'.length
    · have hlen : (w'.filter fun y => !decide (y < v)) ≠ [] := by
        intro e
        rw [e, List.append_nil] at hsplit
        have := congrArg List.length hsplit
        omega
      obtain ⟨x, r, hx⟩ := List.exists_cons_of_ne_nil hlen
      have hget : (w'.map PyData.int)[p]? = some (.int x) := by
        rw [List.getElem?_map]
        have key : w'[p]? = (w'.filter (fun y => decide (y < v)) ++ w'.filter (fun y => !decide (y < v)))[p]? := congrArg (fun l => l[p]?) hsplit
        rw [key, hx, hp]
        simp
      have e3 : ∀ fr Q, opQ .idx [.tuple (w'.map .int), .int (p : Int)] fr Q = Q (.d (.int x), fr) := fun fr Q => q_idx_t (by omega) (by rw [Int.toNat_natCast]; exact hget)
      have hxm : x ∈ w'.filter fun y => !decide (y < v) := by rw [hx]; simp
      have hxw : x ∈ w' := (List.mem_filter.mp hxm).1
      have hxv : v ≤ x := by simpa using (List.mem_filter.mp hxm).2
      have hxb := hw'.1 x hxw
      -- below x is what is below v
      have hrx : ∀ y ∈ w', y < x → y < v := fun y hy hyx => by
        false_or_by_contra
        have hy2 : y ∈ w'.filter fun y => !decide (y < v) := by simp [hy]; omega
        have hp : Ris (w'.filter fun y => !decide (y < v)) := hw'.2.filter _
        rw [hx] at hy2 hp
        rcases List.mem_cons.mp hy2 with e | e
        · omega
        · have := (List.pairwise_cons.mp hp).1 y e
          omega
      have hflt : (w'.filter fun y => decide (y < x)) = (w'.filter fun y => decide (y < v)) := List.filter_congr fun y hy => by
        have := hrx y hy
        simp
        omega
      simp [g, e3]
      cases hlk : look x rows with
      | none =>
        simp [hlk]
        refine ⟨(m - (x + 1)).toNat, by omega, w', s, x + 1, p + 1, _, _, ⟨hw', fun y hy hyx => ?_, hrs, hss, hsg, hsp⟩, by omega, by omega, rfl, ?_, rfl⟩
        · by_cases e : y = x
          · subst e; exact look_none.mp hlk
          · exact hfree y hy (hrx y hy (by omega))
        · have e : (w'.filter fun y => decide (y < x + 1)) = (w'.filter fun y => decide (y < v)) ++ [x] := by
            refine risI_ext (hw'.2.filter _) ?_ fun y => ?_
            · rw [List.pairwise_append]
              refine ⟨hw'.2.filter _, by simp, fun y hy z hz => ?_⟩
              simp at hy hz
              subst hz
              omega
            · simp only [List.mem_filter, decide_eq_true_eq, List.mem_append, List.mem_singleton]
              constructor
              · rintro ⟨h1, h2⟩
                by_cases e : y = x
                · exact .inr e
                · exact .inl ⟨h1, hrx y h1 (by omega)⟩
              · rintro (⟨h1, h2⟩ | rfl)
                · exact ⟨h1, by omega⟩
                · exact ⟨hxw, by omega⟩
          rw [e, List.length_append, hp]
          rfl
      | some q =>
        obtain ⟨row, trs⟩ := q
        have hmem := look_some hlk
        have hhd := R.head _ hmem
        have hrw := R.word _ hmem
        have hrr := R.ris _ hmem
        have hrs' := R.sub _ hmem
        have hsg' := R.sig _ hmem
        dsimp only at hhd hrw hrr hrs' hsg'
        have hrge : ∀ y ∈ row, x ≤ y := fun y hy => by
          cases row with
          | nil => cases hhd
          | cons z r =>
            cases hhd
            rcases (List.mem_cons.mp hy) with e | e
            · omega
            · have := (List.pairwise_cons.mp hrw.2).1 y e
              omega
        have hxr : x ∈ row := by
          cases row with
          | nil => cases hhd
          | cons z r => cases hhd; simp
        have h45 := hlw w' hw'
        have h45r := hlw row hrw
        have hls := hsub s hrs hss
        have hlt := hsub trs hrr hrs'
        have e1 := (h1 n).1 w' row (by omega)
        have e2 := (h1 n).2 s trs (by omega) (hne s hss) (hne trs hrs')
        simp [q_idx_rows hlk, e1, e2]
        refine ⟨(m - (x + 1)).toNat, by omega, sumW w' row, sumT s trs, x + 1, p, _, _, ⟨word_sumW hw' hrw, fun y hy hyx => ?_, ris_sumT hrs hrr, fun t ht => ?_, ?_, ?_⟩, by omega, by omega, rfl, ?_, rfl⟩
        · rcases mem_sumW.mp hy with ⟨h1, h2⟩ | ⟨h1, h2⟩
          · have : y ≠ x := fun e => h2 (e ▸ hxr)
            exact hfree y h1 (hrx y h1 (by omega))
          · have := hrge y h1
            have : y = x := by omega
            exact absurd (this ▸ hxw) h2
        · rcases mem_sumT.mp ht with h | h
          · exact hss t h.1
          · exact hrs' t h.1
        · rw [sig_sumT hrs hrr (fun t h => (ht t (hss t h)).2.2) (fun t h => (ht t (hrs' t h)).2.2), hsg, hsg', sumW_assoc hw.2 hw'.2 hrw.2]
        · rw [← sumW_assoc hw.2 hw'.2 hrw.2]
          exact .add hsp (List.mem_map.mpr ⟨_, hmem, rfl⟩)
        · have e : ((sumW w' row).filter fun y => decide (y < x + 1)) = (w'.filter fun y => decide (y < v)) := by
            refine risI_ext ((word_sumW hw' hrw).2.filter _) (hw'.2.filter _) fun y => ?_
            simp only [List.mem_filter, decide_eq_true_eq, mem_sumW]
            constructor
            · rintro ⟨⟨h1, h2⟩ | ⟨h1, h2⟩, h3⟩
              · have : y ≠ x := fun e => h2 (e ▸ hxr)
                exact ⟨h1, hrx y h1 (by omega)⟩
              · have := hrge y h1
                have : y = x := by omega
                exact absurd (this ▸ hxw) h2
            · rintro ⟨h1, h2⟩
              exact ⟨.inl ⟨h1, fun h => by have := hrge y h; omega⟩, by omega⟩
          rw [e, hp]
    · simp [g]
      refine ⟨w', s, ⟨hw', fun x hx => ?_, hrs, hss, hsg, hsp⟩, rfl, rfl⟩
      have e : w'.filter (fun y => !decide (y < v)) = [] := by
        have := congrArg List.length hsplit
        rw [List.length_append] at this
        exact (List.length_eq_zero_iff.mp (by omega))
      rw [List.filter_eq_nil_iff] at e
      have := e x hx
      simp at this
      exact hfree x hx this
  · refine ⟨w, [], 0, 0, none, none, ⟨hw, fun x hx hx0 => ?_, .nil, by simp, ?_, ?_⟩, by omega, hm0, by omega, ?_, rfl⟩
    · have := (hw.1 x hx).1
      omega
    · rw [sumW_self hw.2]; rfl
    · rw [sumW_self hw.2]; exact .nil
    · have e : (w.filter fun y => decide (y < 0)) = [] := by
        rw [List.filter_eq_nil_iff]
        intro y hy
        have := (hw.1 y hy).1
        simp
        omega
      simp [e]
theorem dput_new {x : Int} {rows : List Row} (h : look x rows = none) (q : List Int × List (List Int)) : dput (.int x) (.tuple [tI q.1, .tuple (q.2.map tI)]) (rows.map rowD) = (rows ++ [(x, q)]).map rowD := by
  have e : (rows.map rowD).any (fun p => PyData.eqv p.1 (.int x)) = false := by
    rw [look_none] at h
    rw [List.any_eq_false]
    intro p hp
    obtain ⟨r, hr, rfl⟩ := (List.mem_map.mp hp)
    simp only [rowD, eqv_int, decide_eq_true_eq]
    exact fun e => h (List.mem_map.mpr ⟨r, hr, e⟩)
  simp only [dput, e, Bool.false_eq_true, if_false, List.map_append]
  rfl
theorem rows_add {m : Int} {ts : List (List Int)} {rows : List Row} {t rest : List Int} {some_ : List (List Int)} (R : Rows m ts rows) (hts : ∀ u ∈ ts, Word m u) (ht : Word m t) (hn : ∀ u ∈ ts, u < t) (O : RestOk m ts rows t rest some_) {x : Int} {r : List Int} (e : rest = x :: r) : Rows m (ts ++ [t]) (rows ++ [(x, rest, sumT some_ [t])]) := by
  have hsr : ∀ u ∈ some_, Ris u := fun u hu => (hts u (O.sub u hu)).2
  have hwr : Ris (sumW t rest) := ris_sumW ht.2 O.word.2
  have hrow : ∀ u ∈ (rows ++ [(x, rest, sumT some_ [t])]).map (·.2.1), Ris u := fun u hu => by
    rw [List.map_append, List.mem_append] at hu
    rcases hu with h | h
    · obtain ⟨p, hp, rfl⟩ := List.mem_map.mp h
      exact (R.word p hp).2
    · simp at h
      subst h
      exact O.word.2
  have mono : ∀ u ∈ rows.map (·.2.1), u ∈ (rows ++ [(x, rest, sumT some_ [t])]).map (·.2.1) := fun u hu => by
    rw [List.map_append]
    exact List.mem_append_left _ hu
  have last : rest ∈ (rows ++ [(x, rest, sumT some_ [t])]).map (·.2.1) := by simp
  refine ⟨fun p hp => ?_, fun p hp => ?_, fun p hp => ?_, fun p hp u hu => ?_, fun p hp => ?_, ?_, ?_, fun u hu => ?_, ?_⟩
  · rcases (List.mem_append.mp hp) with h | h
    · exact R.head p h
    · simp at h; subst h; rw [e]; rfl
  · rcases (List.mem_append.mp hp) with h | h
    · exact R.word p h
    · simp at h; subst h; exact O.word
  · rcases (List.mem_append.mp hp) with h | h
    · exact R.ris p h
    · simp at h; subst h; exact ris_sumT O.ris (by simp)
  · rcases (List.mem_append.mp hp) with h | h
    · exact List.mem_append_left _ (R.sub p h u hu)
    · simp at h; subst h
      rcases mem_sumT.mp hu with h | h
      · exact List.mem_append_left _ (O.sub u h.1)
      · exact List.mem_append_right _ h.1
  · rcases (List.mem_append.mp hp) with h | h
    · exact R.sig p h
    · simp at h; subst h
      show sig (sumT some_ [t]) = rest
      rw [sig_sumT O.ris (by simp) hsr (by simpa using ht.2), sig_one ht.2, O.sig, sumW_comm ht.2 O.word.2, sumW_assoc O.word.2 ht.2 ht.2, sumW_self ht.2, sumW_nil' O.word.2]
  · (rw [List.map_append, List.nodup_append])
    refine ⟨R.keys, by simp, fun a ha b hb => ?_⟩
    simp at hb
    subst hb
    exact fun e2 => O.free b (by rw [e]; simp) (e2 ▸ ha)
  · rw [List.pairwise_append]
    refine ⟨R.ech, by simp, fun p hp q hq => ?_⟩
    simp at hq
    subst hq
    exact fun h => O.free _ h (List.mem_map.mpr ⟨p, hp, rfl⟩)
  · rcases List.mem_append.mp hu with h | h
    · exact (R.span u h).mono mono
    · simp at h; subst h
      have s1 : Span ((rows ++ [(x, rest, sumT some_ [u])]).map (·.2.1)) (sumW (sumW u rest) rest) := .add (O.span.mono mono) last
      rwa [sumW_assoc ht.2 O.word.2 O.word.2, sumW_self O.word.2, sumW_nil' ht.2] at s1
  · have := R.few
    simp
    omega
theorem rows_more {m : Int} {ts : List (List Int)} {rows : List Row} {t : List Int} {some_ : List (List Int)} (R : Rows m ts rows) (ht : Word m t) (O : RestOk m ts rows t [] some_) : Rows m (ts ++ [t]) rows := ⟨R.head, R.word, R.ris, fun p hp u hu => List.mem_append_left _ (R.sub p hp u hu), R.sig, R.keys, R.ech, fun u hu => by
  rcases List.mem_append.mp hu with h | h
  · exact R.span u h
  · simp at h; subst h
    have := O.span
    rwa [sumW_nil' ht.2] at this, by have := R.few; simp; omega⟩
abbrev S_init (T : Nat → Option Fn) (glb : Nat → Option D) (fuel c d i : Nat) : Prop := ∀ n (m : Int) (ts : List (List Int)), Lot m ts → ∃ rows, Rows m ts rows ∧ callN T glb fuel (n + 3) i [.ins c [], .d (lotD m ts)] = .ok (.d .none, [some (insD c d rows), none])
def InitI (c d : Nat) (m : Int) (ts : List (List Int)) (r : List D) (fr : Fr) : Prop := ∃ (done rest : List (List Int)) (rows : List Row) (a b e : Option M), done ++ rest = ts ∧ r = rest.map tI ∧ Rows m done rows ∧ fr = [some (insD c d rows), some (.d (lotD m ts)), a, b, e]
theorem s_init {i j1 j2 c d : Nat} (h : T i = some (g_Leads_init d j1 c j2)) (h1 : S_sum_of T glb fuel j1) (h2 : S_rest_of T glb fuel c d j2) : S_init T glb fuel c d i := by
  intro n m ts L
  suffices hh : wp (callN T glb fuel (n + 3) i [.ins c [], .d (lotD m ts)]) fun q => ∃ rows, Rows m ts rows ∧ q = (.d .none, [some (insD c d rows), none]) by
    obtain ⟨q, e, rows, h1, h2⟩ := hh
    exact ⟨rows, h1, by rw [e, h2]⟩
  rw [w_fn h rfl rfl]
  simp
  refine for_rule (InitI c d m ts) ⟨[], ts, [], none, none, none, rfl, rfl, rows_nil m, rfl⟩ ?_ ?_
  · rintro x r fr ⟨done, rest, rows, a, b, e, hd, hr, R, rfl⟩
    cases rest with
    | nil => cases hr
    | cons t rest =>
      cases hr
      have hsub : ∀ u ∈ done, u ∈ ts := fun u hu => by rw [← hd]; exact List.mem_append_left _ hu
      have htm : t ∈ ts := by rw [← hd]; simp
      have hdw : ∀ u ∈ done, u.length = 3 ∧ Word m u := fun u hu => L.tr u (hsub u hu)
      have hlt : ∀ u ∈ done, u < t := fun u hu => by
        have := L.ri
        rw [← hd, List.pairwise_append] at this
        exact this.2.2 u hu t (by simp)
      have hlen : done.length ≤ 20000 := Nat.le_trans (by rw [← hd]; simp) L.few
      obtain ⟨rs, sm, O, e1⟩ := h2 n m done rows t R (by have := L.lo; omega) L.hi hdw hlen (L.tr t htm).2
      simp [e1]
      have e2 := (h1 (n + 1)).2 sm [t] (by
        have := len_sub (nodup_risT O.ris) O.sub
        simp
        omega) (fun hn => by have := (hdw [] (O.sub _ hn)).1; cases this) (fun hn => by
          have := (L.tr t htm).1
          rw [List.mem_singleton.mp hn |>.symm] at this
          cases this)
      by_cases g : rs = []
      · simp [g]
        subst g
        exact ⟨done ++ [t], rest, rows, _, _, _, by rw [← hd]; simp, rfl, rows_more R (L.tr t htm).2 O, rfl⟩
      · obtain ⟨y, s, e⟩ := List.exists_cons_of_ne_nil g
        have hlk : look y rows = none := look_none.mpr (O.free y (by rw [e]; simp))
        have e3 : (PyData.tuple [tI t]) = .tuple ([t].map tI) := rfl
        have hkv : (rows.map rowD).length < line := by
          have := R.few
          simp [line]
          omega
        subst e
        simp [e3, e2, storeM_d (keyed_rows y rows) hkv]
        have e4 := dput_new hlk (y :: s, sumT sm [t])
        rw [e4]
        exact ⟨done ++ [t], rest, _, _, _, _, by rw [← hd]; simp, rfl, rows_add R (fun u hu => (hdw u hu).2) (L.tr t htm).2 hlt O rfl, rfl⟩
  · rintro fr ⟨done, rest, rows, a, b, e, hd, hr, R, rfl⟩
    cases rest with
    | cons t rest => cases hr
    | nil =>
      simp at hd
      subst hd
      simp
      exact ⟨rows, R, rfl⟩
end
end Mn
/-! Stage 11: even words, papers. -/
namespace Mn
open PySem
def tD (k : Int) : D × D := (.int k, .bool true)
section
variable {fr : Fr} {Q : M × Fr → Prop}
theorem keyed_tD (x : Int) (l : List Int) : keyed (.int x) (l.map tD) = true := by simp [keyed, keyKind, keysOk, tD]
theorem dfind_tD (x : Int) (l : List Int) : (dfind (.int x) (l.map tD)).isSome = decide (x ∈ l) := by
  induction l with
  | nil => rfl
  | cons a r ih =>
    simp only [List.map_cons, tD, dfind, eqv_int, List.mem_cons]
    by_cases h : a = x
    · simp [h]
    · have h' : ¬ x = a := fun e => h e.symm
      have ih' : (dfind (.int x) (r.map tD)).isSome = decide (x ∈ r) := ih
      simp only [h, h', decide_false, Bool.false_eq_true, if_false, false_or]
      exact ih'
@[simp] theorem q_in_tD (x : Int) (l : List Int) : opQ .in_ [.int x, .dict (l.map tD)] fr Q = Q (.d (.bool (decide (x ∈ l))), fr) := opQ_of (by
  simp only [opsem, inS, keyed_tD, if_true, dfind_tD, bl])
@[simp] theorem q_sorted_tD (l : List Int) : opQ .sorted [.dict (l.map tD)] fr Q = Q (.lst ((sortI l).map .int), fr) := opQ_of (by
  have e : (l.map tD).map (·.1) = l.map .int := by simp [tD]
  have e2 : keysOk 1 (l.map tD) = true := by simp [keysOk, tD, keyKind]
  simp only [opsem, sortedS, e, sortable_ints, e2, Bool.true_or, Bool.and_self, if_true, sortD_ints])
@[simp] theorem q_sorted_rows (rows : List Row) : opQ .sorted [.dict (rows.map rowD)] fr Q = Q (.lst ((sortI (rows.map (·.1))).map .int), fr) := opQ_of (by
  have e : (rows.map rowD).map (·.1) = (rows.map (·.1)).map .int := by simp [rowD]
  have e2 : keysOk 1 (rows.map rowD) = true := by simp [keysOk, rowD, keyKind]
  simp only [opsem, sortedS, e, sortable_ints, e2, Bool.true_or, Bool.and_self, if_true, sortD_ints])
@[simp] theorem q_len_rows (rows : List Row) : opQ .len [.dict (rows.map rowD)] fr Q = Q (.d (.int rows.length), fr) := opQ_of (by
  have e2 : keysOk 1 (rows.map rowD) = true := by simp [keysOk, rowD, keyKind]
  simp only [opsem, lenS, e2, Bool.true_or, if_true, List.length_map])
theorem dput_tD {x : Int} {l : List Int} (h : x ∉ l) : dput (.int x) (.bool true) (l.map tD) = (l ++ [x]).map tD := by
  have e : (l.map tD).any (fun p => PyData.eqv p.1 (.int x)) = false := by
    rw [List.any_eq_false]
    intro p hp
    obtain ⟨r, hr, rfl⟩ := (List.mem_map.mp hp)
    simp only [tD, eqv_int, decide_eq_true_eq]
    exact fun e => h (e ▸ hr)
  simp only [dput, e, Bool.false_eq_true, if_false, List.map_append]
  rfl
end
section
variable {T : Nat → Option Fn} {glb : Nat → Option D} {fuel : Nat}
abbrev S_led (T : Nat → Option Fn) (glb : Nat → Option D) (fuel c d i : Nat) : Prop := ∀ n (rows : List Row), callN T glb fuel (n + 1) i [insD c d rows] = .ok (.lst ((sortI (rows.map (·.1))).map .int), [some (insD c d rows)])
theorem s_led {i c d : Nat} (h : T i = some (g_Leads_led d)) : S_led T glb fuel c d i := by
  intro n rows
  apply of_wp
  rw [w_fn h rfl rfl]
  simp
structure EvenOk (m : Int) (rows : List Row) (thing : Int) (e : List Int) : Prop where
  word : Word m e
  even : ∀ p ∈ rows, dot p.2.1 e = false
  own : ∀ x ∈ e, x = thing ∨ x ∈ rows.map (·.1)
  has : thing ∈ e
def EvenI (c d : Nat) (m : Int) (rows : List Row) (thing : Int) (r : List D) (fr : Fr) : Prop := ∃ (done rest F : List Int) (a b : Option M), done ++ rest = (sortI (rows.map (·.1))).reverse ∧ r = rest.map .int ∧ F.Nodup ∧ (∀ x ∈ F, x = thing ∨ x ∈ done) ∧ thing ∈ F ∧
  (∀ p ∈ rows, p.1 ∈ done → dot p.2.1 F = false) ∧ fr = [some (insD c d rows), some (.d (.int thing)), some (.dic (F.map tD)), a, b, none]
abbrev S_even_with (T : Nat → Option Fn) (glb : Nat → Option D) (fuel c d i : Nat) : Prop := ∀ n (m : Int) (ts : List (List Int)) (rows : List Row) (thing : Int), Rows m ts rows → ts.length ≤ 20000 → m ≤ 45 → 0 ≤ thing → thing < m → thing ∉ rows.map (·.1) →
  ∃ e, EvenOk m rows thing e ∧ callN T glb fuel (n + 2) i [insD c d rows, .d (.int thing)] = .ok (.d (tI e), [some (insD c d rows), none])
theorem dot_perm {w a b : List Int} (h : ∀ x, x ∈ a ↔ x ∈ b) : dot w a = dot w b := by
  unfold dot
  simp [h]
theorem s_even_with {i j c d : Nat} (h : T i = some (g_Leads_even_with c j d)) (h1 : S_led T glb fuel c d j) : S_even_with T glb fuel c d i := by
  intro n m ts rows thing R hl hm h0 h2 hk
  suffices hh : wp (callN T glb fuel (n + 2) i [insD c d rows, .d (.int thing)]) fun q => ∃ e, EvenOk m rows thing e ∧ q = (.d (tI e), [some (insD c d rows), none]) by
    obtain ⟨q, e, e', h1, h2⟩ := hh
    exact ⟨e', h1, by rw [e, h2]⟩
  rw [w_fn h rfl rfl]
  simp [h1 _ _, keyKind]
  have hkey : ∀ x, x ∈ (sortI (rows.map (·.1))).reverse ↔ x ∈ rows.map (·.1) := fun x => by simp
  have hord : (sortI (rows.map (·.1))).reverse.Pairwise fun a b => b < a := List.pairwise_reverse.mpr (ris_sortI R.keys)
  have hkb : ∀ p ∈ rows, 0 ≤ p.1 ∧ p.1 < m := fun p hp => by
    have a1 := R.head p hp
    have a2 := R.word p hp
    refine a2.1 p.1 ?_
    cases e : p.2.1 with
    | nil => rw [e] at a1; cases a1
    | cons z r => rw [e] at a1; cases a1; simp
  refine for_rule (EvenI c d m rows thing) ⟨[], (sortI (rows.map (·.1))).reverse, [thing], none, none, rfl, ?_, by simp, by simp, by simp, by simp, rfl⟩ ?_ ?_
  · rw [List.map_reverse]
  · rintro x r fr ⟨done, rest, F, a, b, hd, hr, hF, hFd, hth, hev, rfl⟩
    cases rest with
    | nil => cases hr
    | cons k rest =>
      cases hr
      have hkm : k ∈ rows.map (·.1) := (hkey k).mp (by rw [← hd]; simp)
      have hdone : ∀ x ∈ done, k < x := fun x hx => by
        have := hord
        rw [← hd, List.pairwise_append] at this
        exact this.2.2 x hx k (by simp)
      have hkF : k ∉ F := fun hx => by
        rcases hFd k hx with e | e
        · exact hk (e ▸ hkm)
        · have := hdone k e
          omega
      cases hlk : look k rows with
      | none => exact absurd hkm (look_none.mp hlk)
      | some q =>
        obtain ⟨row, trs⟩ := q
        have hmem := look_some hlk
        have hhd := R.head _ hmem
        have hrw := R.word _ hmem
        dsimp only at hhd hrw
        cases row with
        | nil => cases hhd
        | cons z tl =>
          cases hhd
          have hzt : k ∉ tl := fun hx => by
            have := (List.pairwise_cons.mp hrw.2).1 k hx
            omega
          have hrlen : (k :: tl).length ≤ 45 := by
            have := len_word (by omega) hrw
            omega
          have hFlen : F.length ≤ 20001 := by
            have : ∀ x ∈ F, x ∈ thing :: rows.map (·.1) := fun x hx => by
              rcases hFd x hx with e | e
              · simp [e]
              · exact List.mem_cons_of_mem _ ((hkey x).mp (by rw [← hd]; simp [e]))
            have := len_sub hF this
            have := R.few
            simp at *
            omega
          -- what the row has of what is found
          have hcount : (k :: tl).countP (fun x => decide (x ∈ F)) = (tl.filter fun x => decide (x ∈ F)).length := by
            rw [List.countP_cons, List.countP_eq_length_filter]
            simp [hkF]
          have hline : line = 16777216 := rfl
          have next : ∀ G : List Int, (∀ x, x ∈ G ↔ x ∈ F ∨ (x = k ∧ x ∈ G)) → G.Nodup → dot (k :: tl) G = false → ∀ p ∈ rows, p.1 ∈ done ++ [k] → dot p.2.1 G = false := fun G hG hGn hGd p hp hpd => by
            by_cases e : p.1 = k
            · have hp2 : look k rows = some p.2 := by
                have hu : ∀ rs : List Row, (rs.map (·.1)).Nodup → p ∈ rs → look p.1 rs = some p.2 := by
                  intro rs
                  induction rs with
                  | nil => intro _ hp; cases hp
                  | cons q rs ih =>
                    intro hn hp
                    (rw [List.map_cons, List.nodup_cons] at hn)
                    rcases (List.mem_cons.mp hp) with e | hp
                    · subst e; simp [look]
                    · have : ¬ q.1 = p.1 := fun e => hn.1 (e ▸ List.mem_map.mpr ⟨p, hp, rfl⟩)
                      simp only [look, this, if_false]
                      exact ih hn.2 hp
                rw [← e]
                exact hu rows R.keys hp
              rw [hlk] at hp2
              rw [← Option.some.inj hp2]
              exact hGd
            · have hpd' : p.1 ∈ done := by
                rcases List.mem_append.mp hpd with h | h
                · exact h
                · simp at h; exact absurd h e
              have hge : k < p.1 := hdone _ hpd'
              have a1 := R.head p hp
              have a2 := R.word p hp
              have hkp : k ∉ p.2.1 := fun hx => by
                cases e : p.2.1 with
                | nil => rw [e] at a1; cases a1
                | cons z r =>
                  rw [e] at a1 a2 hx
                  cases a1
                  rcases List.mem_cons.mp hx with e | e
                  · omega
                  · have := (List.pairwise_cons.mp a2.2).1 k e
                    omega
              have := hev p hp hpd'
              unfold dot at this ⊢
              rw [← this]
              congr 2
              congr 1
              refine List.countP_congr fun x hx => ?_
              have hxk : x ≠ k := fun e => hkp (e ▸ hx)
              have := hG x
              simp [hxk] at this
              simp [this]
          simp [q_idx_rows hlk]
          refine comp_fil (l := tl) (f := .int) (fun x => decide (x ∈ F)) .int (by simp at hrlen; omega) (fun x hx => by by_cases g : x ∈ F <;> simp [g]) ?_
          simp [q_mod]
          by_cases g : ((tl.filter fun x => decide (x ∈ F)).length : Int) % 2 = 1
          · simp [g, storeM_d (keyed_tD k F) (show (F.map tD).length < line by simp; omega), dput_tD hkF]
            have e9 : List.map tD F ++ [tD k] = (F ++ [k]).map tD := by simp
            try rw [e9]
            refine ⟨done ++ [k], rest, F ++ [k], _, _, by rw [← hd]; simp, rfl, ?_, ?_, by simp [hth], ?_, rfl⟩
            · rw [List.nodup_append]
              exact ⟨hF, by simp, fun a ha b hb e => hkF (by simp at hb; rw [← hb, ← e]; exact ha)⟩
            · intro x hx
              rcases List.mem_append.mp hx with h | h
              · rcases hFd x h with e | e
                · exact .inl e
                · exact .inr (by simp [e])
              · exact .inr (by simp at h; simp [h])
            · refine next _ (fun x => by simp; exact ⟨fun h => h.imp_right fun e => ⟨e, .inr e⟩, fun h => h.imp_right fun e => e.1⟩) ?_ ?_
              · rw [List.nodup_append]
                exact ⟨hF, by simp, fun a ha b hb e => hkF (by simp at hb; rw [← hb, ← e]; exact ha)⟩
              · unfold dot
                have : tl.countP (fun x => decide (x ∈ F ++ [k])) = tl.countP (fun x => decide (x ∈ F)) := List.countP_congr fun x hx => by
                  have : x ≠ k := fun e => hzt (e ▸ hx)
                  simp [this]
                rw [List.countP_cons, this, List.countP_eq_length_filter]
                simp
                omega
          · simp [g]
            refine ⟨done ++ [k], rest, F, _, _, by rw [← hd]; simp, rfl, hF, ?_, hth, ?_, rfl⟩
            · intro x hx
              rcases hFd x hx with e | e
              · exact .inl e
              · exact .inr (by simp [e])
            · refine next F (fun x => ⟨fun h => .inl h, fun h => h.elim id fun h => h.2⟩) hF ?_
              unfold dot
              rw [hcount]
              simp
              omega
  · rintro fr ⟨done, rest, F, a, b, hd, hr, hF, hFd, hth, hev, rfl⟩
    cases rest with
    | cons k rest => cases hr
    | nil =>
      rw [List.append_nil] at hd
      simp
      refine ⟨sortI F, ⟨⟨fun x hx => ?_, ris_sortI hF⟩, fun p hp => ?_, fun x hx => ?_, by simpa using hth⟩, rfl⟩
      · rcases hFd x (by simpa using hx) with e | e
        · subst e; exact ⟨h0, h2⟩
        · have := (hkey x).mp (hd ▸ e)
          obtain ⟨p, hp, rfl⟩ := List.mem_map.mp this
          exact hkb p hp
      · rw [dot_perm (b := F) (by simp)]
        exact hev p hp (by rw [hd, hkey]; exact List.mem_map.mpr ⟨p, hp, rfl⟩)
      · rcases hFd x (by simpa using hx) with e | e
        · exact .inl e
        · exact .inr ((hkey x).mp (hd ▸ e))
/-! papers -/
abbrev S_sum_of_all (T : Nat → Option Fn) (glb : Nat → Option D) (fuel i : Nat) : Prop := ∀ n (m : Int) (ws : List (List Int)), 0 ≤ m → m ≤ 45 → (∀ w ∈ ws, Word m w) → callN T glb fuel (n + 2) i [.d (.tuple (ws.map tI))] = .ok (.d (tI (sig ws)), [none])
def AllI (m : Int) (ws : List (List Int)) (r : List D) (fr : Fr) : Prop := ∃ (done rest : List (List Int)) (a : Option M), done ++ rest = ws ∧ r = rest.map tI ∧ fr = [some (.d (.tuple (ws.map tI))), some (.d (tI (sig done))), a]
theorem s_sum_of_all {i j : Nat} (h : T i = some (g_sum_of_all j)) (h1 : S_sum_of T glb fuel j) : S_sum_of_all T glb fuel i := by
  intro n m ws hm0 hm hw
  apply of_wp
  rw [w_fn h rfl rfl]
  simp
  refine for_rule (AllI m ws) ⟨[], ws, none, rfl, rfl, rfl⟩ ?_ ?_
  · rintro x r fr ⟨done, rest, a, hd, hr, rfl⟩
    cases rest with
    | nil => cases hr
    | cons t rest =>
      cases hr
      have a1 := len_word hm0 (word_sig (n := m) (ts := done) fun t ht => hw t (by rw [← hd]; simp [ht]))
      have a2 := len_word hm0 (hw t (by rw [← hd]; simp))
      simp [(h1 n).1 (sig done) t (by omega)]
      exact ⟨done ++ [t], rest, _, by rw [← hd]; simp, rfl, by rw [sig_snoc]⟩
  · rintro fr ⟨done, rest, a, hd, hr, rfl⟩
    cases rest with
    | cons t rest => cases hr
    | nil =>
      rw [List.append_nil] at hd
      subst hd
      simp
theorem dot_len (w e : List Int) : dot w e = decide ((w.filter fun x => decide (x ∈ e)).length % 2 = 1) := by rw [dot, List.countP_eq_length_filter]
abbrev S_is_even_of (T : Nat → Option Fn) (glb : Nat → Option D) (fuel i : Nat) : Prop := ∀ n (m : Int) (ts : List (List Int)) (w : List Int), Lot m ts → callN T glb fuel (n + 1) i [.d (lotD m ts), .d (tI w)] = .ok (.d (.bool (ts.all fun t => !dot t w)), [none, none])
theorem s_is_even_of {i : Nat} (h : T i = some g_is_even_of) : S_is_even_of T glb fuel i := by
  intro n m ts w L
  apply of_wp
  rw [w_fn h rfl rfl]
  have hl : ts.length ≤ line := Nat.le_trans L.few (by decide)
  simp
  refine comp_map (fun t => .bool (!dot t w)) hl (fun t ht => ?_) ?_
  · simp
    refine comp_fil (fun x => decide (x ∈ w)) .int (by rw [(L.tr t ht).1]; decide) (fun x hx => by by_cases g : x ∈ w <;> simp [g]) ?_
    simp [q_mod, dot_len]
    rw [Bool.eq_iff_iff]
    simp
    omega
  · simp
theorem even_dot {rest e : List Int} {x : Int} {r : List Int} {rows : List Row} {m : Int} (he : rest = x :: r) (hr : Ris rest) (hf : ∀ y ∈ rest, y ∉ rows.map (·.1)) (E : EvenOk m rows x e) : dot rest e = true := by
  subst he
  rw [dot_len]
  have h2 := List.pairwise_cons.mp hr
  have e1 : r.filter (fun y => decide (y ∈ e)) = [] := by
    rw [List.filter_eq_nil_iff]
    intro y hy hye
    rcases E.own y (by simpa using hye) with g | g
    · have := h2.1 y hy; omega
    · exact hf y (by simp [hy]) g
  simp [List.filter_cons, E.has, e1]
structure SumOk (ts : List (List Int)) (w : List Int) (us : List (List Int)) : Prop where
  ris : Ris us
  sub : ∀ u ∈ us, u ∈ ts
  sum : sig us = w
structure EveOk (m : Int) (ts : List (List Int)) (w e : List Int) : Prop where
  word : Word m e
  even : ∀ t ∈ ts, dot t e = false
  odd : dot w e = true
/-- a paper that is told -/
def PaperOk (m : Int) (ts : List (List Int)) (w : List Int) (x : D) : Prop := (∃ us, x = .tuple [.str "sum", .tuple (us.map tI)] ∧ SumOk ts w us) ∨ (∃ e, x = .tuple [.str "even", tI e] ∧ EveOk m ts w e)
abbrev S_paper_of (T : Nat → Option Fn) (glb : Nat → Option D) (fuel i : Nat) : Prop := ∀ n (m : Int) (ts : List (List Int)) (w : List Int), Lot m ts → Word m w → ∃ x, PaperOk m ts w x ∧ callN T glb fuel (n + 4) i [.d (lotD m ts), .d (tI w)] = .ok (.d x, [none, none])
theorem s_paper_of {i j1 j2 j3 c d k1 k2 : Nat} (h : T i = some (g_paper_of k1 k2 c j1 j2 j3)) (h1 : S_even_with T glb fuel c d j1) (h2 : S_rest_of T glb fuel c d j2) (h3 : S_init T glb fuel c d j3) (e1 : glb k1 = some (.str "sum")) (e2 : glb k2 = some (.str "even")) : S_paper_of T glb fuel i := by
  intro n m ts w L hw
  suffices hh : wp (callN T glb fuel (n + 4) i [.d (lotD m ts), .d (tI w)]) fun q => ∃ x, PaperOk m ts w x ∧ q = (.d x, [none, none]) by
    obtain ⟨q, e, x, h1, h2⟩ := hh
    exact ⟨x, h1, by rw [e, h2]⟩
  rw [w_fn h rfl rfl]
  obtain ⟨rows, R, e3⟩ := h3 n m ts L
  obtain ⟨rest, sm, O, e4⟩ := h2 (n + 1) m ts rows w R (by have := L.lo; omega) L.hi L.tr L.few hw
  simp [e3, e4]
  by_cases g : rest = []
  · subst g
    simp [e1]
    exact .inl ⟨sm, rfl, O.ris, O.sub, by rw [O.sig, sumW_nil' hw.2]⟩
  · obtain ⟨x, r, e⟩ := List.exists_cons_of_ne_nil g
    have hx := O.word.1 x (by rw [e]; simp)
    obtain ⟨ev, E, e5⟩ := h1 (n + 1) m ts rows x R L.few L.hi hx.1 hx.2 (O.free x (by rw [e]; simp))
    have ho := even_dot e O.word.2 O.free E
    have hrs : ∀ r ∈ rows.map (·.2.1), Ris r := fun r hr => by
      obtain ⟨p, hp, rfl⟩ := List.mem_map.mp hr
      exact (R.word p hp).2
    have hre : ∀ r ∈ rows.map (·.2.1), dot r ev = false := fun r hr => by
      obtain ⟨p, hp, rfl⟩ := List.mem_map.mp hr
      exact E.even p hp
    have O2 := O
    subst e
    simp [e2, e5]
    refine .inr ⟨ev, rfl, E.word, fun t ht => (R.span t ht).dot hrs hre, ?_⟩
    have s1 := O2.span.dot hrs hre
    rw [dot_sumW hw.2 O2.word.2, ho] at s1
    cases e6 : dot w ev with
    | true => rfl
    | false => rw [e6] at s1; cases s1
abbrev S_word_paper (T : Nat → Option Fn) (glb : Nat → Option D) (fuel i : Nat) : Prop := ∀ n (m : Int) (ts : List (List Int)) (w : List Int), Lot m ts → Word m w → ∃ x, PaperOk m ts w x ∧ callN T glb fuel (n + 8) i [.d (lotD m ts), .d (tI w)] = .ok (.d x, [none, none])
theorem word_len {m : Int} {w : List Int} {ts : List (List Int)} (L : Lot m ts) (h : Word m w) : w.length ≤ 45 := by
  have h1 := L.lo
  have h2 := L.hi
  have := len_word (by omega) h
  omega
theorem s_word_paper {i j1 j2 : Nat} (h : T i = some (g_word_paper j1 j2)) (h1 : S_paper_of T glb fuel j1) (h2 : S_want_told T glb fuel j2) : S_word_paper T glb fuel i := by
  intro n m ts w L hw
  obtain ⟨x, hx, e⟩ := h1 (n + 3) m ts w L hw
  refine ⟨x, hx, ?_⟩
  apply of_wp
  rw [w_fn h rfl rfl]
  simp [h2 n m ts w L hw (by have := word_len L hw; omega), e]
/-- triples of a lot, rising -/
def isTrips (m : Int) (ts : List (List Int)) : D → Bool
  | .tuple us => us.all (isTrip m) && decide (Ris (us.filterMap unT) ∧ ∀ u ∈ us.filterMap unT, u ∈ ts)
  | _ => false
theorem isTrips_iff {m : Int} {ts : List (List Int)} {x : D} : isTrips m ts x = true ↔ ∃ us, x = .tuple (us.map tI) ∧ (∀ u ∈ us, u.length = 3 ∧ Word m u) ∧ Ris us ∧ ∀ u ∈ us, u ∈ ts := by
  constructor
  · intro h
    cases x with
    | tuple us =>
      simp only [isTrips, Bool.and_eq_true, decide_eq_true_eq] at h
      obtain ⟨h1, h2, h3⟩ := h
      obtain ⟨ws, rfl, g⟩ := all_trip.mp h1
      rw [unT_map] at h2 h3
      exact ⟨ws, rfl, g, h2, h3⟩
    | _ => cases h
  · rintro ⟨us, rfl, h1, h2, h3⟩
    simp only [isTrips, Bool.and_eq_true, decide_eq_true_eq]
    exact ⟨all_trip.mpr ⟨us, rfl, h1⟩, by rw [unT_map]; exact ⟨h2, h3⟩⟩
theorem trips_eq {m : Int} {ts ws : List (List Int)} (g : ∀ u ∈ ws, u.length = 3 ∧ Word m u) : isTrips m ts (.tuple (ws.map tI)) = decide (Ris ws ∧ ∀ u ∈ ws, u ∈ ts) := by
  rw [Bool.eq_iff_iff, isTrips_iff, decide_eq_true_eq]
  constructor
  · rintro ⟨us, e, _, h2, h3⟩
    have : ws = us := by
      have := congrArg (fun d => match d with | PyData.tuple xs => xs.filterMap unT | _ => []) e
      simpa only [unT_map] using this
    subst this
    exact ⟨h2, h3⟩
  · rintro ⟨h2, h3⟩
    exact ⟨ws, rfl, g, h2, h3⟩
abbrev S_are_triples_in (T : Nat → Option Fn) (glb : Nat → Option D) (fuel i : Nat) : Prop := ∀ n (m : Int) (ts : List (List Int)) (x : D), Lot m ts → Ok x → callN T glb fuel (n + 5) i [.d (lotD m ts), .d x] = .ok (.d (.bool (isTrips m ts x)), [none, none])
theorem s_are_triples_in {i j1 j2 : Nat} (h : T i = some (g_are_triples_in j1 j2)) (h1 : S_is_rising T glb fuel j1) (h2 : S_is_triple_in T glb fuel j2) : S_are_triples_in T glb fuel i := by
  intro n m ts x L hx
  apply of_wp
  rw [w_fn h rfl rfl]
  cases x with
  | tuple us =>
    simp
    refine comp_mapD (fun y => .bool (isTrip m y)) hx.len (fun y hy => by simp [h2 _ m y (hx.sub y hy)]) ?_
    cases hb : us.all fun a => isTrip m a with
    | false =>
      simp [hb]
      have : us.all (isTrip m) = false := hb
      simp [isTrips, this]
    | true =>
      simp [hb]
      obtain ⟨ws, rfl, g⟩ := all_trip.mp hb
      have hl := hx.len
      simp at hl
      simp [(h1 _).2 ws hl]
      by_cases hr : Ris ws
      · simp [hr]
        refine comp_map (fun u => .bool (decide (u ∈ ts))) hl (fun u hu => by simp) ?_
        have e : isTrips m ts (.tuple (ws.map tI)) = ws.all fun u => decide (u ∈ ts) := by
          rw [trips_eq g, Bool.eq_iff_iff]
          simp [hr]
        rw [e]
        simp
      · simp [hr]
        rw [trips_eq g]
        simp [hr]
  | dict _ => cases hx.plain
  | _ => simp [isTrips]
def isEven (m : Int) (ts : List (List Int)) (w : List Int) : D → Bool
  | .tuple xs => match ints? xs with
    | some e => decide (Word m e) && (ts.all fun t => !dot t e) && dot w e
    | none => false
  | _ => false
def isSum (m : Int) (ts : List (List Int)) (w : List Int) : D → Bool
  | .tuple us => isTrips m ts (.tuple us) && decide (sig (us.filterMap unT) = w)
  | _ => false
def isPaper (m : Int) (ts : List (List Int)) (w : List Int) : D → Bool
  | .tuple [.str s, v] => if s == "sum" then isSum m ts w v else if s == "even" then isEven m ts w v else false
  | _ => false
theorem isEven_no {m : Int} {ts : List (List Int)} {w : List Int} {v : D} (h : isWord m v = false) : isEven m ts w v = false := by
  cases v with
  | tuple xs =>
    simp only [isEven, isWord] at *
    cases e : ints? xs with
    | none => rfl
    | some e' =>
      rw [e] at h
      simp only [] at h
      simp only [h, Bool.false_and]
  | _ => rfl
theorem isEven_tI {m : Int} {ts : List (List Int)} {w e : List Int} (h : Word m e) : isEven m ts w (tI e) = ((ts.all fun t => !dot t e) && dot w e) := by
  simp only [isEven, ints?_map, decide_eq_true h, Bool.true_and]
theorem isSum_no {m : Int} {ts : List (List Int)} {w : List Int} {v : D} (h : isTrips m ts v = false) : isSum m ts w v = false := by
  cases v with
  | tuple xs => simp only [isSum, h, Bool.false_and]
  | _ => rfl
theorem isSum_tI {m : Int} {ts us : List (List Int)} {w : List Int} (h : isTrips m ts (.tuple (us.map tI)) = true) : isSum m ts w (.tuple (us.map tI)) = decide (sig us = w) := by
  simp only [isSum, h, Bool.true_and, unT_map]
abbrev S_is_paper_of (T : Nat → Option Fn) (glb : Nat → Option D) (fuel i : Nat) : Prop := ∀ n (m : Int) (ts : List (List Int)) (w : List Int) (x : D), Lot m ts → Word m w → Ok x → callN T glb fuel (n + 6) i [.d (lotD m ts), .d (tI w), .d x] = .ok (.d (.bool (isPaper m ts w x)), [none, none, none])
theorem s_is_paper_of {i j1 j2 k1 k2 j3 j4 j5 : Nat} (h : T i = some (g_is_paper_of j1 j2 k1 k2 j3 j4 j5)) (h1 : S_is_even_of T glb fuel j1) (h2 : S_is_word_of T glb fuel j2) (h3 : S_sum_of_all T glb fuel j3) (h4 : S_are_triples_in T glb fuel j4) (h5 : S_is_row T glb fuel j5) (e1 : glb k1 = some (.str "even")) (e2 : glb k2 = some (.str "sum")) : S_is_paper_of T glb fuel i := by
  intro n m ts w x L hw hx
  apply of_wp
  rw [w_fn h rfl rfl]
  have hm0 : 0 ≤ m := by have := L.lo; omega
  have no : (∀ a b, x ≠ .tuple [a, b]) → isRow 2 x = false ∧ isPaper m ts w x = false := fun hn => by
    constructor
    · cases x with
      | tuple xs =>
        simp only [isRow, decide_eq_false_iff_not]
        intro e
        match xs, e with
        | [a, b], _ => exact hn a b rfl
        | [], e => simp at e
        | [a], e => simp at e
        | a :: b :: c :: r, e => simp at e; omega
      | _ => rfl
    · unfold isPaper
      split
      · exact absurd rfl (hn _ _)
      · rfl
  simp [h5 _ _ _ hx]
  by_cases g : ∃ a b, x = .tuple [a, b]
  · obtain ⟨a, v, rfl⟩ := g
    have hv : Ok v := hx.sub v (by simp)
    have ha : Ok a := hx.sub a (by simp)
    simp [isRow]
    cases a with
    | str s =>
      simp [e1, e2]
      by_cases g1 : s = "sum"
      · subst g1
        simp [isPaper, h4 _ m ts v L hv]
        cases e : isTrips m ts v with
        | false => simp [isSum_no e]
        | true =>
          obtain ⟨us, rfl, u1, u2, u3⟩ := isTrips_iff.mp e
          simp [h3 _ m us hm0 L.hi (fun u hu => (u1 u hu).2), isSum_tI e]
      · by_cases g2 : s = "even"
        · subst g2
          simp [isPaper, g1, h2 _ m v hv]
          cases e : isWord m v with
          | false => simp [isEven_no e]
          | true =>
            obtain ⟨ev, rfl, hev⟩ := isWord_iff.mp e
            rw [isEven_tI hev]
            have hl : w.length ≤ line := by
              have := word_len L hw
              simp [line]
              omega
            cases e3 : ts.all fun t => !dot t ev with
            | false => simp [h1 _ m ts ev L, e3]
            | true =>
              simp [h1 _ m ts ev L, e3]
              refine comp_fil (fun x => decide (x ∈ ev)) .int hl (fun x hx => by by_cases g : x ∈ ev <;> simp [g]) ?_
              simp [q_mod, dot_len]
              omega
        · simp [isPaper, g1, g2]
    | dict _ => cases ha.plain
    | _ => simp [isPaper]
  · have := no fun a b e => g ⟨a, b, e⟩
    simp [this]
end
end Mn
/-! Stage 11: the laws' own helpers. -/
namespace Mn
open PySem
/-- what digits are drawn from -/
def Pot (p : List D) : Prop := ∃ a b : Int, p = [.int a, .int b] ∧ 0 ≤ a ∧ 0 ≤ b ∧ b < 2147483587
section
variable {T : Nat → Option Fn} {glb : Nat → Option D} {fuel : Nat}
abbrev S_pot (T : Nat → Option Fn) (glb : Nat → Option D) (fuel i : Nat) : Prop := ∀ n (ns : List Int) (k : Int), 0 ≤ k → k ≤ 1000 → ∃ p, Pot p ∧ callN T glb fuel (n + 1) i [.d (.list (ns.map .int)), .d (.int k)] = .ok (.lst p, [none, none])
theorem s_pot {i : Nat} (h : T i = some g__law_pot) : S_pot T glb fuel i := by
  intro n ns k h0 h1
  suffices hh : wp (callN T glb fuel (n + 1) i [.d (.list (ns.map .int)), .d (.int k)]) fun q => ∃ p, Pot p ∧ q = (.lst p, [none, none]) by
    obtain ⟨q, e, x, h1, h2⟩ := hh
    exact ⟨x, h1, by rw [e, h2]⟩
  rw [w_fn h rfl rfl]
  have m1 : mulOk 997 k = true := mulOk_l (by decide) (by decide)
  have m2 : mulOk 613 k = true := mulOk_l (by decide) (by decide)
  have m3 : ∀ c : Int, mulOk (c % 2147483549) 41161 = true := fun c => mulOk_r (by decide) (by decide)
  have p1 : ∀ fr Q, opQ .pow [.int 10, .int 18] fr Q = Q (.d (.int 1000000000000000000), fr) := fun fr Q => q_pow (by decide) (by decide) (by decide)
  have fin : ∀ c : Int, Pot [.int (if 1000000000000000000 < c then c - 1000000000000000000 else 0), .int ((c % 2147483549 * 41161 + 613 * k + 59) % 2147483563 + 1)] := fun c => ⟨_, _, rfl, by split <;> omega, by omega, by omega⟩
  simp [q_mul m1]
  by_cases g : k < ns.length
  · have hx : (ns.map PyData.int)[k.toNat]? = some (.int ns[k.toNat]) := by
      rw [List.getElem?_map, List.getElem?_eq_getElem (by omega)]
      rfl
    have e3 : ∀ fr Q, opQ .idx [.list (ns.map .int), .int k] fr Q = Q (.d (.int ns[k.toNat]), fr) := fun fr Q => q_idx_l h0 hx
    simp [g, e3, p1, q_mod, q_mul, m2, m3]
    exact fin _
  · simp [g, p1, q_mod, q_mul, m2, m3]
    exact fin _
def DrawQ (m : Int) (q : M × Fr) : Prop := ∃ p' d, Pot p' ∧ 0 ≤ d ∧ d < m ∧ q = (.d (.int d), [some (.lst p'), none])
abbrev S_draw (T : Nat → Option Fn) (glb : Nat → Option D) (fuel i : Nat) : Prop := ∀ n (p : List D) (m : Int), Pot p → 0 < m → m < 1073741824 → ∃ p' d, Pot p' ∧ 0 ≤ d ∧ d < m ∧ callN T glb fuel (n + 1) i [.lst p, .d (.int m)] = .ok (.d (.int d), [some (.lst p'), none])
theorem s_draw {i : Nat} (h : T i = some g__law_draw) : S_draw T glb fuel i := by
  intro n p m ⟨a, b, e, h0, h1, h2⟩ h3 h4
  suffices hh : wp (callN T glb fuel (n + 1) i [.lst p, .d (.int m)]) (DrawQ m) by
    obtain ⟨q, e, p', d, h1, h2, h3, h4⟩ := hh
    exact ⟨p', d, h1, h2, h3, by rw [e, h4]⟩
  subst e
  rw [w_fn h rfl rfl]
  by_cases g : 0 < a
  · have pl : place 0 2 = some 0 := rfl
    simp [g, q_divmod h3 h4, pl]
    exact ⟨[.int (a / m), .int b], a % m, ⟨_, _, rfl, Int.ediv_nonneg h0 (by omega), h1, h2⟩, Int.emod_nonneg _ (by omega), Int.emod_lt_of_pos _ h3, rfl⟩
  · have pl : place 1 2 = some 1 := rfl
    have m1 : mulOk b 48271 = true := mulOk_r (by decide) (by decide)
    have m2 : ∀ c : Int, mulOk ((c % 2147483587)) (c % 2147483587) = true := fun c => mulOk_l (by omega) (by omega)
    simp [g, pl, q_mod, q_mul, m1, m2, q_fdiv, h3]
    exact ⟨_, _, ⟨a, (b * 48271 + 1049) % 2147483587, rfl, h0, by omega, by omega⟩, Int.emod_nonneg _ (by omega), Int.emod_lt_of_pos _ h3, rfl⟩
abbrev S_pick (T : Nat → Option Fn) (glb : Nat → Option D) (fuel i : Nat) : Prop := ∀ n (p : List D) (xs : List D) (m : M), Pot p → xs ≠ [] → xs.length < 1000000000 → (m = .lst xs ∨ m = .d (.tuple xs)) → ∃ p' x, Pot p' ∧ x ∈ xs ∧ callN T glb fuel (n + 2) i [.lst p, m] = .ok (.d x, [some (.lst p'), none])
theorem s_pick {i j : Nat} (h : T i = some (g__law_pick j)) (h1 : S_draw T glb fuel j) : S_pick T glb fuel i := by
  intro n p xs m hp hne hl hm
  have hl0 : 0 < xs.length := List.length_pos_iff.mpr hne
  obtain ⟨p', d, hp', h2, h3, e⟩ := h1 n p xs.length hp (by omega) (by omega)
  have hx : xs[d.toNat]? = some xs[d.toNat] := List.getElem?_eq_getElem (by omega)
  refine ⟨p', xs[d.toNat], hp', List.getElem_mem _, ?_⟩
  apply of_wp
  rw [w_fn h rfl rfl]
  rcases hm with rfl | rfl
  · simp [e, q_idx_l h2 hx]
  · simp [e, q_idx_t h2 hx]
/-! pairs, triples -/
def pairsI (m : Int) : List (List Int) := (rng 0 m).flatMap fun a => (rng (a + 1) m).map fun b => [a, b]
def triplesI (m : Int) : List (List Int) := (rng 0 m).flatMap fun a => (rng (a + 1) m).flatMap fun b => (rng (b + 1) m).map fun c => [a, b, c]
theorem mem_triplesI {m : Int} {t : List Int} : t ∈ triplesI m ↔ t.length = 3 ∧ Word m t := by
  simp only [triplesI, List.mem_flatMap, List.mem_map, mem_rng]
  constructor
  · rintro ⟨a, ha, b, hb, c, hc, rfl⟩
    refine ⟨rfl, fun x hx => ?_, ?_⟩
    · simp at hx
      rcases hx with rfl | rfl | rfl <;> omega
    · simp
      omega
  · rintro ⟨h1, h2, h3⟩
    match t, h1 with
    | [a, b, c], _ =>
      simp at h2 h3
      exact ⟨a, by omega, b, by omega, c, by omega, rfl⟩
theorem ris_triplesI (m : Int) : Ris (triplesI m) := by
  unfold triplesI Ris
  rw [List.pairwise_flatMap]
  refine ⟨fun a ha => ?_, List.Pairwise.imp (fun {a b} hab x hx y hy => ?_) (ris_rng 0 m)⟩
  · rw [List.pairwise_flatMap]
    refine ⟨fun b hb => ?_, List.Pairwise.imp (fun {b c} hbc x hx y hy => ?_) (ris_rng (a + 1) m)⟩
    · rw [List.pairwise_map]
      exact List.Pairwise.imp (fun {c d} hcd => by simp [List.cons_lt_cons_iff, hcd]) (ris_rng (b + 1) m)
    · obtain ⟨c1, _, rfl⟩ := List.mem_map.mp hx
      obtain ⟨c2, _, rfl⟩ := List.mem_map.mp hy
      simp [List.cons_lt_cons_iff, hbc]
  · simp only [List.mem_flatMap, List.mem_map] at hx hy
    obtain ⟨b1, _, c1, _, rfl⟩ := hx
    obtain ⟨b2, _, c2, _, rfl⟩ := hy
    simp [List.cons_lt_cons_iff, hab]
theorem len_flat {α β : Type} (f : α → List β) (k : Nat) : ∀ l : List α, (∀ a ∈ l, (f a).length ≤ k) → (l.flatMap f).length ≤ l.length * k
  | [], _ => by simp
  | a :: r, h => by
    have := len_flat f k r fun b hb => h b (by simp [hb])
    have h0 := h a (by simp)
    simp only [List.flatMap_cons, List.length_append, List.length_cons, Nat.add_mul]
    omega
theorem len_pairsI {m : Int} (h0 : 0 ≤ m) (h : m ≤ 45) : (pairsI m).length ≤ 2025 := by
  have := len_flat (fun a => (rng (a + 1) m).map fun b => [a, b]) 45 (rng 0 m) fun a ha => by
    have := mem_rng.mp ha
    simp
    omega
  have e : (rng 0 m).length = m.toNat := by simp
  unfold pairsI
  have : m.toNat ≤ 45 := by omega
  have := Nat.mul_le_mul_right 45 this
  omega
theorem len_triplesI {m : Int} (h0 : 0 ≤ m) (h : m ≤ 45) : (triplesI m).length ≤ 91125 := by
  have := len_flat (fun a => (rng (a + 1) m).flatMap fun b => (rng (b + 1) m).map fun c => [a, b, c]) 2025 (rng 0 m) fun a ha => by
    have h2 := len_flat (fun b => (rng (b + 1) m).map fun c => [a, b, c]) 45 (rng (a + 1) m) fun b hb => by
      have h1 := mem_rng.mp ha
      have := mem_rng.mp hb
      simp
      omega
    have h1 := mem_rng.mp ha
    have e : (rng (a + 1) m).length ≤ 45 := by simp; omega
    have := Nat.mul_le_mul_right 45 e
    omega
  have e : (rng 0 m).length = m.toNat := by simp
  unfold triplesI
  have : m.toNat ≤ 45 := by omega
  have := Nat.mul_le_mul_right 2025 this
  omega
abbrev S_all_pairs (T : Nat → Option Fn) (glb : Nat → Option D) (fuel i : Nat) : Prop := ∀ n (m : Int), 0 ≤ m → m ≤ 45 → callN T glb fuel (n + 1) i [.d (.int m)] = .ok (.lst ((pairsI m).map tI), [none])
def PairsI (m : Int) (r : List D) (fr : Fr) : Prop := ∃ (done rest : List Int) (a : Option M), done ++ rest = rng 0 m ∧ r = rest.map .int ∧ fr = [some (.d (.int m)), some (.lst ((done.flatMap fun a => (rng (a + 1) m).map fun b => [a, b]).map tI)), a, none]
theorem s_all_pairs {i : Nat} (h : T i = some g__law_all_pairs) : S_all_pairs T glb fuel i := by
  intro n m h0 h1
  apply of_wp
  rw [w_fn h rfl rfl]
  have hsm : smallI m = true := smallOf (by omega) (by omega)
  simp [iter_r1' hsm]
  refine for_rule (PairsI m) ⟨[], rng 0 m, none, rfl, rfl, rfl⟩ ?_ ?_
  · rintro x r fr ⟨done, rest, a, hd, hr, rfl⟩
    cases rest with
    | nil => cases hr
    | cons k rest =>
      cases hr
      have hk := mem_rng.mp (show k ∈ rng 0 m by rw [← hd]; simp)
      have hsk : smallI (k + 1) = true := smallOf (by omega) (by omega)
      simp [iter_r2' hsk hsm]
      have hl : (rng (k + 1) m).length ≤ 45 := by simp; omega
      refine comp_map (fun b => tI [k, b]) (by simp [line]; omega) (fun b hb => by simp) ?_
      have hlen := len_flat (fun a => (rng (a + 1) m).map fun b => [a, b]) 45 done fun a ha => by
        have := mem_rng.mp (show a ∈ rng 0 m by rw [← hd]; simp [ha])
        simp
        omega
      have hdl : done.length ≤ 45 := by
        have := congrArg List.length hd
        simp at this
        omega
      have := Nat.mul_le_mul_right 45 hdl
      have hA : ((List.map tI (done.flatMap fun a => (rng (a + 1) m).map fun b => [a, b])) : List D).length + ((rng (k + 1) m).map fun b => tI [k, b]).length ≤ line := by
        rw [List.length_map, List.length_map]
        have : line = 16777216 := rfl
        omega
      simp only [KO_eq, o_nil, wp_ok, KO2_eq, KExt_eq, getS_s, getS_0, extW_eq, KEx_eq, KSeq_next, s_nil]
      refine ⟨hA, done ++ [k], rest, some (.d (.int k)), by rw [← hd]; simp, rfl, ?_⟩
      simp
  · rintro fr ⟨done, rest, a, hd, hr, rfl⟩
    cases rest with
    | cons k rest => cases hr
    | nil =>
      rw [List.append_nil] at hd
      subst hd
      simp [pairsI]
abbrev S_all_triples (T : Nat → Option Fn) (glb : Nat → Option D) (fuel i : Nat) : Prop := ∀ n (m : Int), 0 ≤ m → m ≤ 45 → callN T glb fuel (n + 2) i [.d (.int m)] = .ok (.lst ((triplesI m).map tI), [none])
def thirds (m : Int) (p : List Int) : List (List Int) := match p with
  | [a, b] => (rng (b + 1) m).map fun c => [a, b, c]
  | _ => []
theorem triplesI_eq (m : Int) : triplesI m = (pairsI m).flatMap (thirds m) := by
  simp only [triplesI, pairsI, List.flatMap_assoc, List.flatMap_map]
  rfl
def TriplesI (m : Int) (r : List D) (fr : Fr) : Prop := ∃ (done rest : List (List Int)) (a b : Option M), done ++ rest = pairsI m ∧ r = rest.map tI ∧ fr = [some (.d (.int m)), some (.lst ((done.flatMap (thirds m)).map tI)), a, b, none]
theorem s_all_triples {i j : Nat} (h : T i = some (g__law_all_triples j)) (h1 : S_all_pairs T glb fuel j) : S_all_triples T glb fuel i := by
  intro n m h0 h2
  apply of_wp
  rw [w_fn h rfl rfl]
  have hsm : smallI m = true := smallOf (by omega) (by omega)
  simp [h1 n m h0 h2]
  refine for_rule (TriplesI m) ⟨[], pairsI m, none, none, rfl, rfl, rfl⟩ ?_ ?_
  · rintro x r fr ⟨done, rest, a, b, hd, hr, rfl⟩
    cases rest with
    | nil => cases hr
    | cons k rest =>
      cases hr
      have hk : k ∈ pairsI m := by rw [← hd]; simp
      simp only [pairsI, List.mem_flatMap, List.mem_map, mem_rng] at hk
      obtain ⟨u, hu, v, hv, rfl⟩ := hk
      have hsk : smallI (v + 1) = true := smallOf (by omega) (by omega)
      rw [show tI [u, v] = .tuple [.int u, .int v] from rfl]
      simp [iter_r2' hsk hsm]
      have hl : (rng (v + 1) m).length ≤ 45 := by simp; omega
      refine comp_map (fun c => tI [u, v, c]) (by simp [line]; omega) (fun b hb => by simp) ?_
      have hlen := len_flat (thirds m) 45 done fun a ha => by
        have hk : a ∈ pairsI m := by rw [← hd]; simp [ha]
        simp only [pairsI, List.mem_flatMap, List.mem_map, mem_rng] at hk
        obtain ⟨u, hu, v, hv, rfl⟩ := hk
        simp [thirds]
        omega
      have hdl : done.length ≤ 2025 := by
        have := congrArg List.length hd
        have := len_pairsI h0 h2
        simp at *
        omega
      have := Nat.mul_le_mul_right 45 hdl
      have hA : ((List.map tI (done.flatMap (thirds m))) : List D).length + ((rng (v + 1) m).map fun c => tI [u, v, c]).length ≤ line := by
        rw [List.length_map, List.length_map]
        have : line = 16777216 := rfl
        omega
      simp only [KO_eq, o_nil, wp_ok, KO2_eq, KExt_eq, getS_s, getS_0, extW_eq, KEx_eq, KSeq_next, s_nil]
      refine ⟨hA, done ++ [[u, v]], rest, some (.d (.int u)), some (.d (.int v)), by rw [← hd]; simp, rfl, ?_⟩
      simp [thirds]
  · rintro fr ⟨done, rest, a, b, hd, hr, rfl⟩
    cases rest with
    | cons k rest => cases hr
    | nil =>
      rw [List.append_nil] at hd
      subst hd
      simp [triplesI_eq]
theorem eraseIdx_mapX {α β : Type} (f : α → β) : ∀ (l : List α) (k : Nat), (l.map f).eraseIdx k = (l.eraseIdx k).map f
  | [], _ => rfl
  | _ :: _, 0 => rfl
  | a :: r, k + 1 => by simp [eraseIdx_mapX f r k]
theorem erase_perm {α : Type} : ∀ (l : List α) (k : Nat) (h : k < l.length), (l[k] :: l.eraseIdx k).Perm l
  | a :: r, 0, _ => .refl _
  | a :: r, k + 1, h => by
    have ih := erase_perm r k (by simpa using h)
    simp only [List.getElem_cons_succ, List.eraseIdx_cons_succ]
    exact (List.Perm.swap ..).trans (ih.cons a)
/-- mixed: the same things in some sequence -/
abbrev S_shuffled (T : Nat → Option Fn) (glb : Nat → Option D) (fuel i : Nat) : Prop := ∀ n (p : List D) (l : List (List Int)) (m : M), Pot p → l.length ≤ 100000 → l.length < fuel → (m = .lst (l.map tI) ∨ m = .d (.tuple (l.map tI))) → ∃ (p' : List D) (l' : List (List Int)), Pot p' ∧ l'.Perm l ∧ callN T glb fuel (n + 2) i [.lst p, m] = .ok (.lst (l'.map tI), [some (.lst p'), none])
def ShufI (l : List (List Int)) (m : M) (k : Nat) (fr : Fr) : Prop := ∃ (p : List D) (l1 l2 : List (List Int)), Pot p ∧ (l2 ++ l1).Perm l ∧ k = l1.length ∧ fr = [some (.lst p), some m, some (.lst (l1.map tI)), some (.lst (l2.map tI))]
def ShufQ (l : List (List Int)) (q : M × Fr) : Prop := ∃ (p' : List D) (l' : List (List Int)), Pot p' ∧ l'.Perm l ∧ q = (.lst (l'.map tI), [some (.lst p'), none])
theorem s_shuffled {i j : Nat} (h : T i = some (g__law_shuffled j)) (h1 : S_draw T glb fuel j) : S_shuffled T glb fuel i := by
  intro n p l m hp hl hf hm
  suffices hh : wp (callN T glb fuel (n + 2) i [.lst p, m]) (ShufQ l) by
    obtain ⟨q, e, p', l', h1, h2, h3⟩ := hh
    exact ⟨p', l', h1, h2, by rw [e, h3]⟩
  rw [w_fn h rfl rfl]
  have key : wp (whlN (evT (cx T glb fuel (n + 1) [0]) (.tst (.op .ne (.cons (.bor 2) (.cons (.lst .nil) .nil))))) (exS (cx T glb fuel (n + 1) [0]) (.cons (.ex (.mut .append 3 (.cons (.mut .pop1 2 (.cons (.call j none (.cons (.bor 0) (.cons (.op .len (.cons (.bor 2) .nil)) .nil))) .nil)) .nil))) .nil)) fuel [some (.lst p), some m, some (.lst (l.map tI)), some (.lst [])]) (KSeq (cx T glb fuel (n + 1) [0]) (.cons (.ret (.mv 3)) .nil) (KFin 2 [0] (ShufQ l))) := by
    refine whl_rule (ShufI l m) ?_ (n := l.length) ⟨p, l, [], hp, by simp, rfl, rfl⟩ hf
    rintro k fr ⟨p, l1, l2, hp, hperm, rfl, rfl⟩
    have hok : okd (.list (l1.map tI)) = true := okd_lm (fun a => okn_ints 38 a) l1
    have hlen := hperm.length_eq
    rw [List.length_append] at hlen
    simp [q_ne_lnil hok]
    by_cases hne : l1 = []
    · subst hne
      simp
      exact ⟨p, l2, hp, by simpa using hperm, rfl⟩
    · have hpos : 0 < l1.length := List.length_pos_iff.mpr hne
      obtain ⟨p', d, hp', h2, h3, e⟩ := h1 n p (l1.length : Int) hp (by omega) (by omega)
      have hx : l1[d.toNat]? = some l1[d.toNat] := List.getElem?_eq_getElem (by omega)
      have hx' : (l1.map tI)[d.toNat]? = some (tI l1[d.toNat]) := by rw [List.getElem?_map, hx]; rfl
      simp [e, hne]
      rw [mutW_pop1 _ (smallOf (by omega) (by omega)) h2 hx']
      have h9 : l2.length < line := by
        have : line = 16777216 := rfl
        omega
      rw [eraseIdx_mapX]
      simp [h9]
      refine ⟨l1.length - 1, by omega, p', l1.eraseIdx d.toNat, l2 ++ [l1[d.toNat]], hp', ?_, ?_, by simp⟩
      · refine List.Perm.trans ?_ hperm
        rw [List.append_assoc]
        exact List.Perm.append_left l2 (erase_perm l1 d.toNat (by omega))
      · rw [List.length_eraseIdx_of_lt (by omega)]
  rcases hm with rfl | rfl
  · simp
    exact key
  · simp
    exact key
theorem lot_of_sub {m : Int} {l : List (List Int)} (h0 : 3 ≤ m) (h1 : m ≤ 45) (hn : l.Nodup) (hs : ∀ t ∈ l, t ∈ triplesI m) (hl : l.length ≤ 20000) : Lot m (sortT l) := ⟨h0, h1, fun t ht => mem_triplesI.mp (hs t ((mem_sortT _ _).mp ht)), ris_sortT hn, by rw [(perm_sortT l).length_eq]; exact hl⟩
abbrev S_any (T : Nat → Option Fn) (glb : Nat → Option D) (fuel i : Nat) : Prop := ∀ n (p : List D) (m k : Int), Pot p → 3 ≤ m → m ≤ 45 → 0 ≤ k → k ≤ 10000 → 100000 ≤ fuel → ∃ p' ts, Pot p' ∧ Lot m ts ∧ (ts.length : Int) ≤ k ∧ callN T glb fuel (n + 3) i [.lst p, .d (.int m), .d (.int k)] = .ok (.d (lotD m ts), [some (.lst p'), none, none])
theorem s_any {i j1 j2 j3 : Nat} (h : T i = some (g__law_any j1 j2 j3)) (h1 : S_shuffled T glb fuel j1) (h2 : S_all_triples T glb fuel j2) (h3 : S_draw T glb fuel j3) : S_any T glb fuel i := by
  intro n p m k hp hm0 hm hk0 hk hf
  have hlt := len_triplesI (m := m) (by omega) hm
  obtain ⟨p', l', hp', hperm, e⟩ := h1 n p (triplesI m) (.lst ((triplesI m).map tI)) hp (by omega) (by omega) (.inl rfl)
  obtain ⟨p2, d, hp2, hd0, hd, e2⟩ := h3 (n + 1) p' (k + 1) hp' (by omega) (by omega)
  have hsub : (l'.take d.toNat).Sublist l' := List.take_sublist _ _
  have hnd : (l'.take d.toNat).Nodup := hsub.nodup (hperm.nodup_iff.mpr (nodup_risT (ris_triplesI m)))
  have hmem : ∀ t ∈ l'.take d.toNat, t ∈ triplesI m := fun t ht => hperm.mem_iff.mp (hsub.subset ht)
  have hlen : (l'.take d.toNat).length ≤ d.toNat := by simp; omega
  have hne : [] ∉ l'.take d.toNat := fun hn => by
    have := (mem_triplesI.mp (hmem _ hn)).1
    cases this
  refine ⟨p2, sortT (l'.take d.toNat), hp2, lot_of_sub hm0 hm hnd hmem (by omega), by rw [(perm_sortT _).length_eq]; omega, ?_⟩
  apply of_wp
  rw [w_fn h rfl rfl]
  simp [h2 n m (by omega) hm, e, e2, q_toI_lm hd0]
  rw [← List.map_take, q_sorted_lt hne]
  simp
abbrev S_law_sum (T : Nat → Option Fn) (glb : Nat → Option D) (fuel i : Nat) : Prop := ∀ n (a b : List Int), a.length + b.length ≤ 1000000 → callN T glb fuel (n + 1) i [.d (tI a), .d (tI b)] = .ok (.d (tI (sumW a b)), [none, none])
theorem s_law_sum {i : Nat} (h : T i = some g__law_sum) : S_law_sum T glb fuel i := by
  intro n a b hl
  have hline : line = 16777216 := rfl
  apply of_wp
  rw [w_fn h rfl rfl]
  simp
  refine comp_fil (fun x => !decide (x ∈ b)) .int (by omega) (fun x hx => by by_cases g : x ∈ b <;> simp [g]) ?_
  simp
  refine comp_fil (fun x => !decide (x ∈ a)) .int (by omega) (fun x hx => by by_cases g : x ∈ a <;> simp [g]) ?_
  have e : (a.filter fun x => !decide (x ∈ b)).length + (b.filter fun x => !decide (x ∈ a)).length ≤ line := by
    have := len_symd a b
    simp only [symd, List.length_append] at this
    omega
  have e2 : List.map PyData.int (List.filter (fun x => !decide (x ∈ b)) a) ++ List.map PyData.int (List.filter (fun x => !decide (x ∈ a)) b) = (symd a b).map .int := by simp [symd]
  simp [q_add_lm e]
  rw [e2]
  simp [sumW]
def WordI (m : Int) (k : M) (r ys : List D) (fr : Fr) : Prop := ∃ (p : List D) (rest w : List Int) (a : Option M), Pot p ∧ r = rest.map .int ∧ ys = w.map .int ∧ (w ++ rest).Sublist (rng 0 m) ∧ fr = [some (.lst p), some k, a]
def WordQ (m : Int) (q : M × Fr) : Prop := ∃ p' w, Pot p' ∧ Word m w ∧ q = (.d (tI w), [some (.lst p'), none])
abbrev S_word (T : Nat → Option Fn) (glb : Nat → Option D) (fuel i : Nat) : Prop := ∀ n (p : List D) (m : Int), Pot p → 0 ≤ m → m ≤ 45 → ∃ p' w, Pot p' ∧ Word m w ∧ callN T glb fuel (n + 2) i [.lst p, .d (.int m)] = .ok (.d (tI w), [some (.lst p'), none])
theorem s_word {i j : Nat} (h : T i = some (g__law_word j)) (h1 : S_draw T glb fuel j) : S_word T glb fuel i := by
  intro n p m hp h0 hm
  suffices hh : wp (callN T glb fuel (n + 2) i [.lst p, .d (.int m)]) (WordQ m) by
    obtain ⟨q, e, p', w, h1, h2, h3⟩ := hh
    exact ⟨p', w, h1, h2, by rw [e, h3]⟩
  rw [w_fn h rfl rfl]
  have hsm : smallI m = true := smallOf (by omega) (by omega)
  simp [iter_r1' hsm]
  refine comp_rule (WordI m (.d (.int m))) ?_ ?_ ⟨p, rng 0 m, [], none, hp, rfl, rfl, by simp, rfl⟩
  · rintro x r ys fr ⟨p, rest, w, a, hp, hr, rfl, hs, rfl⟩
    cases rest with
    | nil => cases hr
    | cons k rest =>
      cases hr
      obtain ⟨p', d, hp', hd0, hd, e⟩ := h1 n p 3 hp (by omega) (by omega)
      simp [e]
      by_cases g : d = 0
      · simp [g]
        exact ⟨p', rest, w ++ [k], _, hp', rfl, by simp, by simpa using hs, rfl⟩
      · simp [g]
        refine ⟨p', rest, w, _, hp', rfl, rfl, List.Sublist.trans ?_ hs, rfl⟩
        exact List.Sublist.append_left (List.sublist_cons_self ..) w
  · rintro ys fr ⟨p, rest, w, a, hp, hr, rfl, hs, rfl⟩
    cases rest with
    | cons k rest => cases hr
    | nil =>
      rw [List.append_nil] at hs
      have hw : Word m w := ⟨fun x hx => by
        have := mem_rng.mp (hs.subset hx)
        omega, (ris_rng 0 m).sublist hs⟩
      have := len_word h0 hw
      simp
      exact ⟨by simp [line]; omega, p, w, hp, hw, rfl⟩
abbrev S_law_is_even (T : Nat → Option Fn) (glb : Nat → Option D) (fuel i : Nat) : Prop := ∀ n (m : Int) (ts : List (List Int)) (w : List Int), Lot m ts → callN T glb fuel (n + 1) i [.d (lotD m ts), .d (tI w)] = .ok (.d (.bool (ts.all fun t => !dot t w)), [none, none])
theorem s_law_is_even {i : Nat} (h : T i = some g__law_is_even) : S_law_is_even T glb fuel i := by
  intro n m ts w L
  apply of_wp
  rw [w_fn h rfl rfl]
  have hl : ts.length ≤ line := Nat.le_trans L.few (by decide)
  simp
  refine comp_fil (fun t => dot t w) tI hl (fun t ht => ?_) ?_
  · simp
    refine comp_fil (fun x => decide (x ∈ w)) .int (by rw [(L.tr t ht).1]; decide) (fun x hx => by by_cases g : x ∈ w <;> simp [g]) ?_
    have h3 : (t.filter fun x => decide (x ∈ w)).length ≤ 3 := by
      have := List.length_filter_le (fun x => decide (x ∈ w)) t
      rw [(L.tr t ht).1] at this
      exact this
    have e : ∀ (k : Int) (fr : Fr) (Q : M × Fr → Prop), opQ .in_ [.int k, .tuple [.int 1, .int 3]] fr Q = Q (.d (.bool (decide (1 = k) || decide (3 = k))), fr) := fun k fr Q => by
      rw [q_in_t rfl rfl]
      simp
    rcases (show (t.filter fun x => decide (x ∈ w)).length = 0 ∨ (t.filter fun x => decide (x ∈ w)).length = 1 ∨ (t.filter fun x => decide (x ∈ w)).length = 2 ∨ (t.filter fun x => decide (x ∈ w)).length = 3 by omega) with e0 | e0 | e0 | e0 <;> simp [e, dot_len, e0]
  · rw [KO_eq]
    simp [q_eq_lnil]
    rw [Bool.eq_iff_iff]
    simp
abbrev S_law_is_odd (T : Nat → Option Fn) (glb : Nat → Option D) (fuel i : Nat) : Prop := ∀ n (a b : List Int), a.length ≤ 1000000 → callN T glb fuel (n + 1) i [.d (tI a), .d (tI b)] = .ok (.d (.bool (dot a b)), [none, none])
theorem s_law_is_odd {i : Nat} (h : T i = some g__law_is_odd) : S_law_is_odd T glb fuel i := by
  intro n a b hl
  apply of_wp
  rw [w_fn h rfl rfl]
  have hline : line = 16777216 := rfl
  simp
  refine comp_fil (fun x => decide (x ∈ b)) .int (by omega) (fun x hx => by by_cases g : x ∈ b <;> simp [g]) ?_
  have m1 : ∀ c : Int, mulOk c 2 = true := fun c => mulOk_r (by decide) (by decide)
  simp [q_fdiv, q_mul, m1, dot_len]
  omega
end
end Mn
/-! Stage 11: what a lot makes, its rank. -/
namespace Mn
open PySem
@[simp] theorem headIns_mk {fr : Fr} (c c' f : Nat) (as es : CE) : headIns c fr (.cons (.make c' f as) es) = true := rfl
theorem Span.trans {rs rs' : List (List Int)} (h' : ∀ r ∈ rs', Ris r) (h : ∀ r ∈ rs, Span rs' r) {w : List Int} (s : Span rs w) : Span rs' w := by
  induction s with
  | nil => exact .nil
  | add _ hr ih => exact ih.sum h' (h _ hr)
theorem span_sig {ts : List (List Int)} (h : ∀ t ∈ ts, Ris t) : ∀ {us : List (List Int)}, (∀ u ∈ us, u ∈ ts) → Span ts (sig us) := by
  intro us
  induction us using snoc_ind with
  | h0 => exact fun _ => .nil
  | h l a ih =>
    intro g
    rw [sig_snoc]
    exact .add (ih fun u hu => g u (by simp [hu])) (g a (by simp))
theorem sumW_twice {a b : List Int} (ha : Ris a) (hb : Ris b) : sumW (sumW a b) b = a := by rw [sumW_assoc ha hb hb, sumW_self hb, sumW_nil' ha]
/-- one more word -/
theorem span_snoc {rs : List (List Int)} {r : List Int} (h : ∀ x ∈ rs, Ris x) (hr : Ris r) {w : List Int} : Span (rs ++ [r]) w ↔ Span rs w ∨ ∃ v, Span rs v ∧ w = sumW v r := by
  constructor
  · intro s
    induction s with
    | nil => exact .inl .nil
    | @add w r' s hr' ih =>
      rcases List.mem_append.mp hr' with m | m
      · rcases ih with i | ⟨v, i, rfl⟩
        · exact .inl (.add i m)
        · refine .inr ⟨sumW v r', .add i m, ?_⟩
          rw [sumW_assoc (i.ris h) hr (h _ m), sumW_assoc (i.ris h) (h _ m) hr, sumW_comm hr (h _ m)]
      · simp at m
        subst m
        rcases ih with i | ⟨v, i, rfl⟩
        · exact .inr ⟨w, i, rfl⟩
        · rw [sumW_twice (i.ris h) hr]
          exact .inl i
  · rintro (s | ⟨v, s, rfl⟩)
    · exact s.mono fun x hx => by simp [hx]
    · exact .add (s.mono fun x hx => by simp [hx]) (by simp)
theorem span_same {rs : List (List Int)} {r : List Int} (h : ∀ x ∈ rs, Ris x) (hr : Span rs r) {w : List Int} : Span (rs ++ [r]) w ↔ Span rs w := by
  rw [span_snoc h (hr.ris h)]
  constructor
  · rintro (s | ⟨v, s, rfl⟩)
    · exact s
    · exact s.sum h hr
  · exact .inl
/-- all that some words make, each once; two to the k of them -/
structure Made (rs : List (List Int)) (L : List (List Int)) (k : Nat) : Prop where
  mem : ∀ x, x ∈ L ↔ Span rs x
  nd : L.Nodup
  len : L.length = 2 ^ k
theorem span_none {x : List Int} : Span [] x ↔ x = [] := by
  constructor
  · intro s
    cases s with
    | nil => rfl
    | add _ h => cases h
  · rintro rfl; exact .nil
theorem made_nil : Made [] [[]] 0 := ⟨fun x => by simp [span_none], by simp, rfl⟩
theorem made_same {rs : List (List Int)} {L : List (List Int)} {k : Nat} {r : List Int} (h : ∀ x ∈ rs, Ris x) (m : Made rs L k) (hr : r ∈ L) : Made (rs ++ [r]) L k := ⟨fun x => by rw [span_same h ((m.mem r).mp hr), m.mem], m.nd, m.len⟩
theorem made_more {rs : List (List Int)} {L : List (List Int)} {k : Nat} {r : List Int} (h : ∀ x ∈ rs, Ris x) (m : Made rs L k) (hr : Ris r) (hn : r ∉ L) : Made (rs ++ [r]) (L ++ L.map fun w => sumW w r) (k + 1) := by
  have hL : ∀ x ∈ L, Ris x := fun x hx => ((m.mem x).mp hx).ris h
  refine ⟨fun x => ?_, ?_, ?_⟩
  · rw [span_snoc h hr, List.mem_append, List.mem_map, m.mem]
    constructor
    · rintro (s | ⟨v, hv, rfl⟩)
      · exact .inl s
      · exact .inr ⟨v, (m.mem v).mp hv, rfl⟩
    · rintro (s | ⟨v, hv, rfl⟩)
      · exact .inl s
      · exact .inr ⟨v, (m.mem v).mpr hv, rfl⟩
  · rw [List.nodup_append]
    refine ⟨m.nd, ?_, fun a ha b hb e => ?_⟩
    · refine List.pairwise_map.mpr (List.Pairwise.imp_of_mem (fun {a b} ha hb hne e => hne ?_) m.nd)
      have := congrArg (fun z => sumW z r) e
      simpa only [sumW_twice (hL a ha) hr, sumW_twice (hL b hb) hr] using this
    · obtain ⟨v, hv, rfl⟩ := List.mem_map.mp hb
      subst e
      have s := ((m.mem _).mp ha).sum h ((m.mem v).mp hv)
      rw [sumW_comm (hL _ ha) (hL v hv), ← sumW_assoc (hL v hv) (hL v hv) hr, sumW_self (hL v hv), sumW_nil hr] at s
      exact hn ((m.mem r).mpr s)
  · rw [List.length_append, List.length_map, m.len, Nat.pow_succ]
    omega
theorem Made.nil_mem {rs L : List (List Int)} {k : Nat} (m : Made rs L k) : [] ∈ L := (m.mem []).mpr .nil
theorem Made.same {rs rs' L L' : List (List Int)} {k k' : Nat} (m : Made rs L k) (m' : Made rs' L' k') (h : ∀ x, Span rs x ↔ Span rs' x) : sortT L = sortT L' ∧ k = k' := by
  have hm : ∀ x, x ∈ L ↔ x ∈ L' := fun x => by rw [m.mem, m'.mem, h]
  refine ⟨risT_ext (ris_sortT m.nd) (ris_sortT m'.nd) fun x => by simp [hm], ?_⟩
  have e : L.length = L'.length := ((List.perm_ext_iff_of_nodup m.nd m'.nd).mpr hm).length_eq
  rw [m.len, m'.len] at e
  exact (Nat.pow_right_inj (by decide)).mp e
/-- words by rising first things: what they make has a first thing of theirs -/
theorem span_first {S : List (Int × List Int)} (h : ∀ p ∈ S, p.1 ∈ p.2 ∧ (∀ x ∈ p.2, p.1 ≤ x) ∧ Ris p.2) (ho : S.Pairwise fun p q => p.1 < q.1) {w : List Int} : Span (S.map (·.2)) w → w = [] ∨ ∃ k ∈ S.map (·.1), k ∈ w ∧ ∀ x ∈ w, k ≤ x := by
  induction S using snoc_ind generalizing w with
  | h0 =>
    intro s
    cases s with
    | nil => exact .inl rfl
    | add _ h => cases h
  | h l p ih =>
    intro s
    have hl : ∀ q ∈ l, q.1 ∈ q.2 ∧ (∀ x ∈ q.2, q.1 ≤ x) ∧ Ris q.2 := fun q hq => h q (by simp [hq])
    have hp := h p (by simp)
    have hr : ∀ x ∈ l.map (·.2), Ris x := fun x hx => by
      obtain ⟨q, hq, rfl⟩ := List.mem_map.mp hx
      exact (hl q hq).2.2
    (rw [List.pairwise_append] at ho)
    rw [List.map_append, List.map_cons, List.map_nil, span_snoc hr hp.2.2] at s
    rcases s with s | ⟨v, s, rfl⟩
    · rcases ih hl ho.1 s with e | ⟨k, k1, k2⟩
      · exact .inl e
      · exact .inr ⟨k, by simp at k1 ⊢; exact .inl k1, k2⟩
    · rcases ih hl ho.1 s with rfl | ⟨k, k1, k2, k3⟩
      · refine .inr ⟨p.1, by simp, ?_⟩
        rw [sumW_nil hp.2.2]
        exact ⟨hp.1, hp.2.1⟩
      · obtain ⟨q, hq, rfl⟩ := List.mem_map.mp k1
        have hlt := ho.2.2 q hq p (by simp)
        refine .inr ⟨q.1, by simp; exact .inl ⟨_, hq⟩, mem_sumW.mpr (.inl ⟨k2, fun hx => by have := hp.2.1 _ hx; omega⟩), fun x hx => ?_⟩
        rcases mem_sumW.mp hx with m | m
        · exact k3 x m.1
        · have := hp.2.1 x m.1
          omega
theorem look_of {rows : List Row} (hn : (rows.map (·.1)).Nodup) {p : Row} (hp : p ∈ rows) : look p.1 rows = some p.2 := by
  induction rows with
  | nil => cases hp
  | cons q rs ih =>
    rw [List.map_cons, List.nodup_cons] at hn
    rcases List.mem_cons.mp hp with e | hp
    · subst e; simp [look]
    · have : ¬ q.1 = p.1 := fun e => hn.1 (e ▸ List.mem_map.mpr ⟨p, hp, rfl⟩)
      simp only [look, this, if_false]
      exact ih hn.2 hp
/-- the row of a thing that leads -/
def rowAt (rows : List Row) (x : Int) : List Int := ((look x rows).map (·.1)).getD []
def ledRows (rows : List Row) : List (Int × List Int) := (sortI (rows.map (·.1))).map fun x => (x, rowAt rows x)
section
variable {m : Int} {ts : List (List Int)} {rows : List Row} (R : Rows m ts rows)
include R
theorem led_row {q : Int × List Int} (hq : q ∈ ledRows rows) : ∃ p ∈ rows, q = (p.1, p.2.1) := by
  obtain ⟨x, hx, rfl⟩ := List.mem_map.mp hq
  rw [mem_sortI] at hx
  obtain ⟨p, hp, rfl⟩ := List.mem_map.mp hx
  exact ⟨p, hp, by simp [rowAt, look_of R.keys hp]⟩
theorem row_led {p : Row} (hp : p ∈ rows) : (p.1, p.2.1) ∈ ledRows rows := List.mem_map.mpr ⟨p.1, by rw [mem_sortI]; exact List.mem_map.mpr ⟨p, hp, rfl⟩, by simp [rowAt, look_of R.keys hp]⟩
theorem led_ok : ∀ q ∈ ledRows rows, q.1 ∈ q.2 ∧ (∀ x ∈ q.2, q.1 ≤ x) ∧ Ris q.2 := fun q hq => by
  obtain ⟨p, hp, rfl⟩ := led_row R hq
  have a1 := R.head p hp
  have a2 := R.word p hp
  dsimp only
  cases e : p.2.1 with
  | nil => rw [e] at a1; cases a1
  | cons z r =>
    rw [e] at a1 a2
    cases a1
    refine ⟨by simp, fun x hx => ?_, a2.2⟩
    rcases List.mem_cons.mp hx with e | e
    · omega
    · have := (List.pairwise_cons.mp a2.2).1 x e
      omega
theorem led_ord : (ledRows rows).Pairwise fun p q => p.1 < q.1 := List.pairwise_map.mpr (ris_sortI R.keys)
theorem led_span {w : List Int} (ht : ∀ t ∈ ts, Ris t) : Span ((ledRows rows).map (·.2)) w ↔ Span ts w := by
  have hl : ∀ r ∈ (ledRows rows).map (·.2), Ris r := fun r hr => by
    obtain ⟨q, hq, rfl⟩ := List.mem_map.mp hr
    exact (led_ok R q hq).2.2
  constructor
  · refine fun s => s.trans ht fun r hr => ?_
    obtain ⟨q, hq, rfl⟩ := List.mem_map.mp hr
    obtain ⟨p, hp, rfl⟩ := led_row R hq
    have := span_sig ht (R.sub p hp)
    rwa [R.sig p hp] at this
  · refine fun s => s.trans hl fun r hr => (R.span r hr).mono fun x hx => ?_
    obtain ⟨p, hp, rfl⟩ := List.mem_map.mp hx
    exact List.mem_map.mpr ⟨_, row_led R hp, rfl⟩
/-- nothing is left of what is made, and only of that -/
theorem left_nil {w rest : List Int} {some_ : List (List Int)} (ht : ∀ t ∈ ts, Ris t) (hw : Ris w) (O : RestOk m ts rows w rest some_) : rest = [] ↔ Span ts w := by
  have hk : Span ts (sumW w rest) := by
    have := span_sig ht O.sub
    rwa [O.sig] at this
  constructor
  · rintro rfl
    rwa [sumW_nil' hw] at hk
  · intro s
    have s2 := s.sum ht hk
    rw [← sumW_assoc hw hw O.word.2, sumW_self hw, sumW_nil O.word.2] at s2
    rcases span_first (led_ok R) (led_ord R) ((led_span R ht).mpr s2) with e | ⟨k, k1, k2, _⟩
    · exact e
    · obtain ⟨q, hq, rfl⟩ := List.mem_map.mp k1
      obtain ⟨p, hp, rfl⟩ := led_row R hq
      exact absurd (List.mem_map.mpr ⟨p, hp, rfl⟩) (O.free _ k2)
end
theorem pairw_snoc {α : Type} {r : α → α → Prop} {l : List α} {a : α} (h : (l ++ [a]).Pairwise r) : l.Pairwise r ∧ ∀ x ∈ l, r x a := by
  rw [List.pairwise_append] at h
  exact ⟨h.1, fun x hx => h.2.2 x hx a (by simp)⟩
/-- a row that leads by a later thing is not made by the earlier ones -/
theorem not_made {S : List (Int × List Int)} {p : Int × List Int} {L : List (List Int)} {k : Nat} (h : ∀ q ∈ S ++ [p], q.1 ∈ q.2 ∧ (∀ x ∈ q.2, q.1 ≤ x) ∧ Ris q.2) (ho : (S ++ [p]).Pairwise fun p q => p.1 < q.1) (m : Made (S.map (·.2)) L k) : p.2 ∉ L := fun hx => by
  have hp := h p (by simp)
  have ho' := pairw_snoc ho
  rcases span_first (fun q hq => h q (by simp [hq])) ho'.1 ((m.mem _).mp hx) with e | ⟨x, x1, x2, x3⟩
  · rw [e] at hp
    cases hp.1
  · obtain ⟨q, hq, rfl⟩ := List.mem_map.mp x1
    have := ho'.2 q hq
    have := hp.2.1 _ x2
    omega
section
variable {T : Nat → Option Fn} {glb : Nat → Option D} {fuel : Nat}
abbrev S_want_at_most (T : Nat → Option Fn) (glb : Nat → Option D) (fuel i : Nat) : Prop := ∀ n (s : Str) (a b : Int), b ≤ a → callN T glb fuel (n + 1) i [.d (.str s), .d (.int a), .d (.int b)] = .ok (.d .none, [none, none, none])
theorem s_want_at_most {i : Nat} (h : T i = some g_want_at_most) : S_want_at_most T glb fuel i := by
  intro n s a b hb
  apply of_wp
  rw [w_fn h rfl rfl]
  have : ¬ a < b := by omega
  simp [this]
abbrev S_Leads_rank (T : Nat → Option Fn) (glb : Nat → Option D) (fuel c d i : Nat) : Prop := ∀ n (rows : List Row), callN T glb fuel (n + 1) i [insD c d rows] = .ok (.d (.int rows.length), [some (insD c d rows)])
theorem s_Leads_rank {i c d : Nat} (h : T i = some (g_Leads_rank d)) : S_Leads_rank T glb fuel c d i := by
  intro n rows
  apply of_wp
  rw [w_fn h rfl rfl]
  simp
abbrev S_Leads_rows (T : Nat → Option Fn) (glb : Nat → Option D) (fuel c d i : Nat) : Prop := ∀ n (m : Int) (ts : List (List Int)) (rows : List Row), Rows m ts rows → ts.length ≤ 20000 → callN T glb fuel (n + 2) i [insD c d rows] = .ok (.lst (((ledRows rows).map (·.2)).map tI), [some (insD c d rows)])
theorem s_Leads_rows {i j c d : Nat} (h : T i = some (g_Leads_rows c j d)) (h1 : S_led T glb fuel c d j) : S_Leads_rows T glb fuel c d i := by
  intro n m ts rows R hl
  apply of_wp
  rw [w_fn h rfl rfl]
  simp [h1 _ _]
  refine comp_map (fun x => tI (rowAt rows x)) (by have := R.few; rw [(perm_sortI _).length_eq, List.length_map]; simp [line]; omega) (fun x hx => ?_) ?_
  · rw [mem_sortI] at hx
    obtain ⟨p, hp, rfl⟩ := List.mem_map.mp hx
    simp [q_idx_rows (look_of R.keys hp), rowAt, look_of R.keys hp]
  · simp [ledRows]
abbrev S_want_two (T : Nat → Option Fn) (glb : Nat → Option D) (fuel i : Nat) : Prop := ∀ n (v w : List Int), Word 45 v → Word 45 w → callN T glb fuel (n + 6) i [.d (tI v), .d (tI w)] = .ok (.d .none, [none, none])
theorem s_want_two {i j k : Nat} (h : T i = some (g_want_two_words j k)) (h1 : S_want_word T glb fuel j) (e1 : glb k = some (.int 45)) : S_want_two T glb fuel i := by
  intro n v w hv hw
  apply of_wp
  rw [w_fn h rfl rfl]
  have l1 := len_word (by decide) hv
  have l2 := len_word (by decide) hw
  simp [e1, h1 n 45 v hv (by omega), h1 n 45 w hw (by omega)]
abbrev S_word_sum (T : Nat → Option Fn) (glb : Nat → Option D) (fuel i : Nat) : Prop := ∀ n (v w : List Int), Word 45 v → Word 45 w → callN T glb fuel (n + 7) i [.d (tI v), .d (tI w)] = .ok (.d (tI (sumW v w)), [none, none])
theorem s_word_sum {i j1 j2 : Nat} (h : T i = some (g_word_sum j1 j2)) (h1 : S_sum_of T glb fuel j1) (h2 : S_want_two T glb fuel j2) : S_word_sum T glb fuel i := by
  intro n v w hv hw
  apply of_wp
  rw [w_fn h rfl rfl]
  have l1 := len_word (by decide) hv
  have l2 := len_word (by decide) hw
  simp [h2 n v w hv hw, (h1 (n + 5)).1 v w (by omega)]
abbrev S_far_apart (T : Nat → Option Fn) (glb : Nat → Option D) (fuel i : Nat) : Prop := ∀ n (v w : List Int), Word 45 v → Word 45 w → callN T glb fuel (n + 7) i [.d (tI v), .d (tI w)] = .ok (.d (.int (sumW v w).length), [none, none])
theorem s_far_apart {i j1 j2 : Nat} (h : T i = some (g_far_apart j1 j2)) (h1 : S_sum_of T glb fuel j1) (h2 : S_want_two T glb fuel j2) : S_far_apart T glb fuel i := by
  intro n v w hv hw
  apply of_wp
  rw [w_fn h rfl rfl]
  have l1 := len_word (by decide) hv
  have l2 := len_word (by decide) hw
  simp [h2 n v w hv hw, (h1 (n + 5)).1 v w (by omega)]
theorem lot_ris {m : Int} {ts : List (List Int)} (L : Lot m ts) : ∀ t ∈ ts, Ris t := fun t ht => (L.tr t ht).2.2
abbrev S_is_made (T : Nat → Option Fn) (glb : Nat → Option D) (fuel i : Nat) : Prop := ∀ n (m : Int) (ts : List (List Int)) (w : List Int) (W : List (List Int)), Lot m ts → Word m w → (∀ x, x ∈ W ↔ Span ts x) → callN T glb fuel (n + 8) i [.d (lotD m ts), .d (tI w)] = .ok (.d (.bool (decide (w ∈ W))), [none, none])
theorem s_is_made {i c d j1 j2 j3 : Nat} (h : T i = some (g_is_made c j1 j2 j3)) (h1 : S_rest_of T glb fuel c d j1) (h2 : S_init T glb fuel c d j2) (h3 : S_want_told T glb fuel j3) : S_is_made T glb fuel i := by
  intro n m ts w W L hw hW
  apply of_wp
  rw [w_fn h rfl rfl]
  obtain ⟨rows, R, e2⟩ := h2 (n + 4) m ts L
  obtain ⟨rest, sm, O, e1⟩ := h1 (n + 5) m ts rows w R (by have := L.lo; omega) L.hi L.tr L.few hw
  have key := left_nil R (lot_ris L) hw.2 O
  simp [h3 n m ts w L hw (by have := word_len L hw; omega), e2, e1]
  rw [hW, key]
abbrev S_is_even_to (T : Nat → Option Fn) (glb : Nat → Option D) (fuel i : Nat) : Prop := ∀ n (m : Int) (ts : List (List Int)) (w : List Int), Lot m ts → Word m w → callN T glb fuel (n + 8) i [.d (lotD m ts), .d (tI w)] = .ok (.d (.bool (ts.all fun t => !dot t w)), [none, none])
theorem s_is_even_to {i j1 j2 : Nat} (h : T i = some (g_is_even_to j1 j2)) (h1 : S_is_even_of T glb fuel j1) (h2 : S_want_told T glb fuel j2) : S_is_even_to T glb fuel i := by
  intro n m ts w L hw
  apply of_wp
  rw [w_fn h rfl rfl]
  simp [h2 n m ts w L hw (by have := word_len L hw; omega), h1 (n + 6) m ts w L]
/-- rank and made words of one lot -/
structure RankOk (m : Int) (ts : List (List Int)) (k : Nat) : Prop where
  few : k ≤ ts.length
  made : ∃ W, Made ts W k
abbrev S_rank (T : Nat → Option Fn) (glb : Nat → Option D) (fuel i : Nat) : Prop := ∀ n (m : Int) (ts : List (List Int)) (W : List (List Int)) (k : Nat), Lot m ts → Made ts W k → k ≤ ts.length ∧ callN T glb fuel (n + 7) i [.d (lotD m ts)] = .ok (.d (.int k), [none])
theorem made_led (S : List (Int × List Int)) (h : ∀ q ∈ S, q.1 ∈ q.2 ∧ (∀ x ∈ q.2, q.1 ≤ x) ∧ Ris q.2) (ho : S.Pairwise fun p q => p.1 < q.1) : ∃ W, Made (S.map (·.2)) W S.length := by
  induction S using snoc_ind with
  | h0 => exact ⟨_, made_nil⟩
  | h l p ih =>
    obtain ⟨W, mW⟩ := ih (fun q hq => h q (by simp [hq])) (pairw_snoc ho).1
    have hr : ∀ x ∈ l.map (·.2), Ris x := fun x hx => by
      obtain ⟨q, hq, rfl⟩ := List.mem_map.mp hx
      exact (h q (by simp [hq])).2.2
    have := made_more hr mW (h p (by simp)).2.2 (not_made h ho mW)
    exact ⟨_, by simpa using this⟩
theorem rank_rows {m : Int} {ts W : List (List Int)} {k : Nat} {rows : List Row} (R : Rows m ts rows) (ht : ∀ t ∈ ts, Ris t) (mW : Made ts W k) : rows.length = k := by
  obtain ⟨V, mV⟩ := made_led (ledRows rows) (led_ok R) (led_ord R)
  have := (mV.same mW fun x => led_span R ht).2
  rw [← this, ledRows, List.length_map, (perm_sortI _).length_eq, List.length_map]
theorem s_rank {i c d j1 j2 j3 : Nat} (h : T i = some (g_rank c j1 j2 j3)) (h1 : S_Leads_rank T glb fuel c d j1) (h2 : S_init T glb fuel c d j2) (h3 : S_want_lot T glb fuel j3) : S_rank T glb fuel i := by
  intro n m ts W k L mW
  obtain ⟨rows, R, e2⟩ := h2 (n + 3) m ts L
  have hk := rank_rows R (lot_ris L) mW
  refine ⟨by have := R.few; omega, ?_⟩
  apply of_wp
  rw [w_fn h rfl rfl]
  simp [h3 n m ts L, e2, h1 (n + 5) rows, hk]
def MadeI (c d : Nat) (m : Int) (ts : List (List Int)) (rows : List Row) (r : List D) (fr : Fr) : Prop := ∃ (done rest : List (Int × List Int)) (W : List (List Int)) (a : Option M), done ++ rest = ledRows rows ∧ r = (rest.map (·.2)).map tI ∧ Made (done.map (·.2)) W done.length ∧ (∀ w ∈ W, Word m w) ∧ W.head? = some [] ∧
  fr = [some (.d (lotD m ts)), a, some (insD c d rows), some (.lst (W.map tI)), none]
abbrev S_made_words (T : Nat → Option Fn) (glb : Nat → Option D) (fuel i : Nat) : Prop := ∀ n (m : Int) (ts : List (List Int)) (W : List (List Int)) (k : Nat), Lot m ts → ts.length ≤ 10 → Made ts W k → callN T glb fuel (n + 7) i [.d (lotD m ts)] = .ok (.lst ((sortT W).map tI), [none])
theorem s_made_words {i c d j1 j2 j3 j4 j5 k1 : Nat} (h : T i = some (g_made_words c j1 j2 j3 k1 j4 j5)) (h1 : S_Leads_rows T glb fuel c d j1) (h2 : S_sum_of T glb fuel j2) (h3 : S_want_at_most T glb fuel j3) (h4 : S_init T glb fuel c d j4) (h5 : S_want_lot T glb fuel j5) (e1 : glb k1 = some (.int 4096)) : S_made_words T glb fuel i := by
  intro n m ts W k L hts mW
  obtain ⟨rows, R, e4⟩ := h4 (n + 3) m ts L
  have hlo := L.lo
  have hhi := L.hi
  have hk := rank_rows R (lot_ris L) mW
  have hfew := R.few
  apply of_wp
  rw [w_fn h rfl rfl]
  have ll : (ledRows rows).length = rows.length := by rw [ledRows, List.length_map, (perm_sortI _).length_eq, List.length_map]
  have e0 : ([.tuple []] : List D) = [[]].map tI := rfl
  simp [h5 n m ts L, e4, h1 (n + 4) m ts rows R (by omega)]
  refine for_rule (MadeI c d m ts rows) ⟨[], ledRows rows, [[]], none, rfl, by simp, made_nil, fun w hw => by simp at hw; subst hw; exact ⟨by simp, .nil⟩, rfl, rfl⟩ ?_ ?_
  · rintro x r fr ⟨done, rest, W, a, hd, hr, mW, hW, hh, rfl⟩
    cases rest with
    | nil => cases hr
    | cons p rest =>
      cases hr
      have hdl : done.length < 10 := by
        have := congrArg List.length hd
        rw [List.length_append, ll] at this
        simp at this
        omega
      have hpow : 2 ^ done.length ≤ 2 ^ 9 := Nat.pow_le_pow_right (by decide) (by omega)
      have hWl : W.length ≤ 512 := by rw [mW.len]; exact hpow
      have hlook : ∀ q ∈ done ++ [p], q ∈ ledRows rows := fun q hq => by
        rw [← hd]
        rcases List.mem_append.mp hq with z | z
        · simp [z]
        · simp at z; simp [z]
      have hor : (done ++ [p]).Pairwise fun p q => p.1 < q.1 := by
        have := led_ord R
        rw [← hd, show done ++ p :: rest = (done ++ [p]) ++ rest by simp, List.pairwise_append] at this
        exact this.1
      have hok := fun q hq => led_ok R q (hlook q hq)
      have hpw : Word m p.2 := by
        obtain ⟨q, hq, rfl⟩ := led_row R (hlook p (by simp))
        exact R.word q hq
      have hr' : ∀ x ∈ done.map (·.2), Ris x := fun x hx => by
        obtain ⟨q, hq, rfl⟩ := List.mem_map.mp hx
        exact (hok q (by simp [hq])).2.2
      have more := made_more hr' mW hpw.2 (not_made hok hor mW)
      have mk : mulOk 2 (W.length : Int) = true := mulOk_l (by decide) (by decide)
      simp [e1, q_mul mk, h3 (n + 5) _ 4096 (2 * (W.length : Int)) (by omega)]
      refine comp_map (fun w => tI (sumW w p.2)) (by simp [line]; omega) (fun w hw => ?_) ?_
      · have l1 := len_word (by omega) (hW w hw)
        have l2 := len_word (by omega) hpw
        simp [(h2 (n + 5)).1 w p.2 (by omega)]
      · simp only [KO_eq, o_nil, wp_ok]
        simp [q_add_l (show (W.map tI).length + (W.map fun w => tI (sumW w p.2)).length ≤ line by simp [line]; omega)]
        refine ⟨done ++ [p], rest, W ++ W.map fun w => sumW w p.2, some (.d (tI p.2)), by rw [← hd]; simp, by simp, by simpa using more, fun w hw => ?_, ?_, ?_⟩
        · rcases List.mem_append.mp hw with z | z
          · exact hW w z
          · obtain ⟨v, hv, rfl⟩ := List.mem_map.mp z
            exact word_sumW (hW v hv) hpw
        · cases W with
          | nil => cases hh
          | cons z zs => simpa using hh
        · simp
  · rintro fr ⟨done, rest, V, a, hd, hr, mV, hV, hh, rfl⟩
    cases rest with
    | cons t rest => cases hr
    | nil =>
      rw [List.append_nil] at hd
      subst hd
      cases V with
      | nil => cases hh
      | cons z zs =>
        simp at hh
        subst hh
        have qs : ∀ fr Q, opQ .sorted [.list (tI [] :: zs.map tI)] fr Q = Q (.lst ((sortT ([] :: zs)).map tI), fr) := fun fr Q => q_sorted_lh (l := [] :: zs) rfl
        simp [qs]
        rw [(mV.same mW fun x => led_span R (lot_ris L)).1]
def LMadeI (m : Int) (ts : List (List Int)) (r : List D) (fr : Fr) : Prop := ∃ (done rest : List (List Int)) (W : List (List Int)) (k : Nat) (a : Option M), done ++ rest = ts ∧ r = rest.map tI ∧ Made done W k ∧ k ≤ done.length ∧ (∀ w ∈ W, Word m w) ∧ W.head? = some [] ∧
  fr = [some (.d (lotD m ts)), some (.lst (W.map tI)), a, none]
abbrev S_law_made (T : Nat → Option Fn) (glb : Nat → Option D) (fuel i : Nat) : Prop := ∀ n (m : Int) (ts : List (List Int)), Lot m ts → ts.length ≤ 10 → ∃ W k, Made ts W k ∧ k ≤ ts.length ∧ (∀ w ∈ W, Word m w) ∧ callN T glb fuel (n + 2) i [.d (lotD m ts)] = .ok (.lst ((sortT W).map tI), [none])
def LMadeQ (m : Int) (ts : List (List Int)) (q : M × Fr) : Prop := ∃ W k, Made ts W k ∧ k ≤ ts.length ∧ (∀ w ∈ W, Word m w) ∧ q = (.lst ((sortT W).map tI), [none])
theorem s_law_made {i j : Nat} (h : T i = some (g__law_made j)) (h1 : S_law_sum T glb fuel j) : S_law_made T glb fuel i := by
  intro n m ts L hts
  suffices hh : wp (callN T glb fuel (n + 2) i [.d (lotD m ts)]) (LMadeQ m ts) by
    obtain ⟨q, e, W, k, h1, h2, h3, h4⟩ := hh
    exact ⟨W, k, h1, h2, h3, by rw [e, h4]⟩
  have hlo := L.lo
  have hhi := L.hi
  rw [w_fn h rfl rfl]
  simp
  refine for_rule (LMadeI m ts) ⟨[], ts, [[]], 0, none, rfl, rfl, made_nil, by simp, fun w hw => by simp at hw; subst hw; exact ⟨by simp, .nil⟩, rfl, rfl⟩ ?_ ?_
  · rintro x r fr ⟨done, rest, W, k, a, hd, hr, mW, hk, hW, hh, rfl⟩
    cases rest with
    | nil => cases hr
    | cons t rest =>
      cases hr
      have htm : t ∈ ts := by rw [← hd]; simp
      have ht := (L.tr t htm).2
      have hdr : ∀ x ∈ done, Ris x := fun x hx => lot_ris L x (by rw [← hd]; simp [hx])
      have hdl : done.length < 10 := by
        have := congrArg List.length hd
        simp at this
        omega
      have hpow : 2 ^ k ≤ 2 ^ 9 := Nat.pow_le_pow_right (by decide) (by omega)
      have hWl : W.length ≤ 512 := by rw [mW.len]; exact hpow
      by_cases g : t ∈ W
      · simp [g]
        exact ⟨done ++ [t], rest, W, k, _, by rw [← hd]; simp, rfl, made_same hdr mW g, by simp; omega, hW, hh, rfl⟩
      · simp [g]
        refine comp_map (fun w => tI (sumW w t)) (by simp [line]; omega) (fun w hw => ?_) ?_
        · have l1 := len_word (by omega) (hW w hw)
          have l2 := len_word (by omega) ht
          simp [h1 n w t (by omega)]
        · simp [q_add_l (show (W.map tI).length + (W.map fun w => tI (sumW w t)).length ≤ line by simp [line]; omega)]
          refine ⟨done ++ [t], rest, W ++ W.map fun w => sumW w t, k + 1, some (.d (tI t)), by rw [← hd]; simp, rfl, made_more hdr mW ht.2 g, by simp; omega, fun w hw => ?_, ?_, ?_⟩
          · rcases List.mem_append.mp hw with z | z
            · exact hW w z
            · obtain ⟨v, hv, rfl⟩ := List.mem_map.mp z
              exact word_sumW (hW v hv) ht
          · cases W with
            | nil => cases hh
            | cons z zs => simpa using hh
          · simp
  · rintro fr ⟨done, rest, W, k, a, hd, hr, mW, hk, hW, hh, rfl⟩
    cases rest with
    | cons t rest => cases hr
    | nil =>
      rw [List.append_nil] at hd
      subst hd
      cases W with
      | nil => cases hh
      | cons z zs =>
        simp at hh
        subst hh
        have qs : ∀ fr Q, opQ .sorted [.list (tI [] :: zs.map tI)] fr Q = Q (.lst ((sortT ([] :: zs)).map tI), fr) := fun fr Q => q_sorted_lh (l := [] :: zs) rfl
        simp [qs]
        exact ⟨_, k, mW, hk, hW, rfl⟩
end
end Mn
/-! k72: what the law's own functions do. -/
namespace Mn
open PySem
/-- whole numbers not far from 0, texts, tuples of these, k deep -/
def Sm : Nat → D → Prop
  | 0, x => (∃ i : Int, x = .int i ∧ -1000 ≤ i ∧ i ≤ 1000) ∨ ∃ s, x = .str s
  | k + 1, x => (∃ i : Int, x = .int i ∧ -1000 ≤ i ∧ i ≤ 1000) ∨ (∃ s, x = .str s) ∨ ∃ xs : List D, x = .tuple xs ∧ xs.length ≤ 1000 ∧ ∀ y ∈ xs, Sm k y
theorem Sm.nice : ∀ {k : Nat} {x : D}, Sm k x → Nice 2001 k x
  | 0, x, h => by
    rcases h with ⟨i, rfl, _⟩ | ⟨s, rfl⟩ <;> simp
  | k + 1, x, h => by
    rcases h with ⟨i, rfl, _⟩ | ⟨s, rfl⟩ | ⟨xs, rfl, h1, h2⟩
    · simp
    · simp
    · exact nice_tuple.mpr ⟨by omega, fun y hy => (h2 y hy).nice⟩
theorem sm_ints {k : Nat} {w : List Int} (h : ∀ a ∈ w, -1000 ≤ a ∧ a ≤ 1000) (hl : w.length ≤ 1000) : Sm (k + 1) (tI w) := .inr (.inr ⟨_, rfl, by simpa using hl, fun y hy => by
  obtain ⟨a, ha, rfl⟩ := List.mem_map.mp hy
  cases k with
  | zero => exact .inl ⟨a, rfl, h a ha⟩
  | succ k => exact .inl ⟨a, rfl, h a ha⟩⟩)
def t0 : D → D
  | .int i => if i = 1 then .bool true else .int i
  | x => x
def trueK : Nat → D → D
  | k + 1, .tuple xs => .tuple (xs.map (trueK k))
  | _, x => t0 x
theorem nice_t0 {n k : Nat} {x : D} (h : Nice n k x) : Nice n k (t0 x) := by
  unfold t0
  split
  · split <;> simp
  · exact h
theorem nice_trueK {n : Nat} : ∀ {k : Nat} {x : D}, Nice n k x → Nice n k (trueK k x)
  | 0, x, h => nice_t0 h
  | k + 1, x, h => by
    unfold trueK
    split
    · rename_i k' xs e
      cases e
      have := nice_tuple.mp h
      exact nice_tuple.mpr ⟨by simpa using this.1, fun y hy => by
        obtain ⟨z, hz, rfl⟩ := List.mem_map.mp hy
        exact nice_trueK (this.2 z hz)⟩
    · exact nice_t0 h
section
variable {T : Nat → Option Fn} {glb : Nat → Option D} {fuel : Nat}
abbrev S_is_word_paper (T : Nat → Option Fn) (glb : Nat → Option D) (fuel i : Nat) : Prop := ∀ n (m : Int) (ts : List (List Int)) (w : List Int) (x : D), Lot m ts → Word m w → Ok x → callN T glb fuel (n + 8) i [.d (lotD m ts), .d (tI w), .d x] = .ok (.d (.bool (isPaper m ts w x)), [none, none, none])
theorem s_is_word_paper {i j1 j2 : Nat} (h : T i = some (g_is_word_paper j1 j2)) (h1 : S_is_paper_of T glb fuel j1) (h2 : S_want_told T glb fuel j2) : S_is_word_paper T glb fuel i := by
  intro n m ts w x L hw hx
  apply of_wp
  rw [w_fn h rfl rfl]
  simp [h2 n m ts w L hw (by have := word_len L hw; omega), h1 (n + 1) m ts w x L hw hx]
abbrev S_is_whole (T : Nat → Option Fn) (glb : Nat → Option D) (fuel i : Nat) : Prop := ∀ n (x : D), x.plain = true → callN T glb fuel (n + 1) i [.d x] = .ok (.d (.bool (isInt x)), [none])
theorem s_is_whole {i : Nat} (h : T i = some g__law_is_whole) : S_is_whole T glb fuel i := by
  intro n x hx
  apply of_wp
  rw [w_fn h rfl rfl]
  cases x <;> simp [isInt]
  cases hx
abbrev S_law_is_word (T : Nat → Option Fn) (glb : Nat → Option D) (fuel i : Nat) : Prop := ∀ n (m : Int) (x : D), Ok x → callN T glb fuel (n + 2) i [.d (.int m), .d x] = .ok (.d (.bool (isWord m x)), [none, none])
theorem s_law_is_word {i j : Nat} (h : T i = some (g__law_is_word j)) (h1 : S_is_whole T glb fuel j) : S_law_is_word T glb fuel i := by
  intro n m x hx
  apply of_wp
  rw [w_fn h rfl rfl]
  cases x with
  | tuple xs =>
    simp
    refine comp_filD (fun y => !isBelow m y) id hx.len (fun y hy => ?_) ?_
    · have hy' := hx.sub y hy
      simp [h1 _ _ hy'.plain]
      cases y with
      | int i =>
        simp [isInt, isBelow]
        by_cases g : 0 ≤ i
        · by_cases g2 : i < m
          · have : ¬ m ≤ i := by omega
            simp [g, g2, this]
          · have : m ≤ i := by omega
            simp [g, g2, this]
        · simp [g]
      | dict _ => cases hy'.plain
      | _ => simp [isInt, isBelow]
    · have hok : okd (.list (List.filter (fun y => !isBelow m y) xs)) = true := by
        refine okd_iff.mpr (okn_list.mpr fun y hy => ?_)
        exact ((nice_tuple.mp hx).2 y (List.mem_filter.mp hy).1).okn
      rw [List.map_id]
      simp [q_ne_lnil hok]
      cases hb : xs.all fun a => isBelow m a with
      | false =>
        have h2 := (no_below hb).1
        rw [List.all_eq_false] at hb
        obtain ⟨y, hy, hyb⟩ := hb
        rw [if_pos ⟨y, hy, by simpa using hyb⟩]
        exact h2
      | true =>
        obtain ⟨w, rfl, hw⟩ := all_below.mp hb
        rw [List.all_eq_true] at hb
        rw [if_neg (fun ⟨y, hy, hyb⟩ => by rw [hb y hy] at hyb; cases hyb)]
        have hl := hx.len
        simp at hl
        rw [zip_adj]
        refine comp_fil (fun p => !decide (p.1 < p.2)) (fun _ => .int 1) (Nat.le_trans (adj_len w) hl) (fun p hp => by by_cases g : p.1 < p.2 <;> simp [g]) ?_
        have hok2 : okd (.list (List.map (fun _ => PyData.int 1) ((adj w).filter fun p => !decide (p.1 < p.2)))) = true := okd_lm (fun _ => okn_int 39 1) _
        have e : ((adj w).filter fun p => !decide (p.1 < p.2)).isEmpty = decide (Ris w) := by
          rw [Bool.eq_iff_iff]
          simp [adjI', Ris]
        simp [q_eq_lnil hok2]
        rw [e, decide_eq_true hw, Bool.true_and]
  | dict _ => cases hx.plain
  | _ => simp [isWord]
abbrev S_true (T : Nat → Option Fn) (glb : Nat → Option D) (fuel i : Nat) : Prop := ∀ k n (x : D), Sm k x → callN T glb fuel (n + k + 2) i [.d x] = .ok (.d (trueK k x), [none])
theorem s_true {i j : Nat} (hh : T i = some (g__law_true j i)) (h1 : S_is_whole T glb fuel j) : S_true T glb fuel i := by
  intro k
  have base : ∀ n (k : Nat) (x : D), ((∃ i : Int, x = .int i) ∨ ∃ s, x = .str s) → trueK k x = t0 x → callN T glb fuel (n + 2) i [.d x] = .ok (.d (trueK k x), [none]) := fun n k x hx e => by
    apply of_wp
    rw [w_fn hh rfl rfl, e]
    rcases hx with ⟨a, rfl⟩ | ⟨s, rfl⟩
    · have hp : (PyData.int a).plain = true := rfl
      simp [h1 _ _ hp, isInt, t0]
    · have hp : (PyData.str s).plain = true := rfl
      simp [h1 _ _ hp, isInt, t0]
      done
  induction k with
  | zero =>
    intro n x hx
    exact base n 0 x (hx.imp (fun ⟨i, e, _⟩ => ⟨i, e⟩) id) rfl
  | succ k ih =>
    intro n x hx
    rcases hx with ⟨a, rfl, h⟩ | ⟨s, rfl⟩ | ⟨xs, rfl, h2, h3⟩
    · exact base (n + k + 1) (k + 1) _ (.inl ⟨a, rfl⟩) rfl
    · exact base (n + k + 1) (k + 1) _ (.inr ⟨s, rfl⟩) rfl
    · apply of_wp
      rw [show n + (k + 1) + 2 = (n + k + 2) + 1 from rfl, w_fn hh rfl rfl]
      simp
      refine comp_mapD (trueK k) (by simp [line]; omega) (fun y hy => by simp [ih n y (h3 y hy)]) ?_
      simp [trueK]
theorem even_sum : ¬ Str.ofString "even" = Str.ofString "sum" := by decide +kernel
theorem sum_even : ¬ Str.ofString "sum" = Str.ofString "even" := by decide +kernel
abbrev S_law_is_paper (T : Nat → Option Fn) (glb : Nat → Option D) (fuel i : Nat) : Prop := ∀ n (m : Int) (ts : List (List Int)) (w : List Int) (x : D), Lot m ts → Word m w → Ok x → callN T glb fuel (n + 3) i [.d (lotD m ts), .d (tI w), .d x] = .ok (.d (.bool (isPaper m ts w x)), [none, none, none])
def SumI (m : Int) (ts : List (List Int)) (w : List Int) (a v : D) (all : List D) (r : List D) (fr : Fr) : Prop := ∃ (done : List (List Int)) (b : Option M), (∀ u ∈ done, u ∈ ts) ∧ done.map tI ++ r = all ∧ fr = [some (.d (lotD m ts)), some (.d (tI w)), some (.d (.tuple [a, v])), some (.d (tI (sig done))), b, none, none]
theorem trip_of_word {m : Int} {ts : List (List Int)} {y : D} (L : Lot m ts) (hy : Ok y) (h : isWord m y = true) : ((ts.map tI).any fun t => PyData.eqv t y) = true ↔ ∃ u, y = tI u ∧ u ∈ ts := by
  obtain ⟨u, rfl, _⟩ := isWord_iff.mp h
  rw [any_tI, decide_eq_true_eq]
  constructor
  · exact fun h => ⟨u, rfl, h⟩
  · rintro ⟨v, e, hv⟩
    have : u = v := by
      have h1 : ints? (u.map .int) = ints? (v.map .int) := by
        have := congrArg (fun d => match d with | PyData.tuple xs => ints? xs | _ => none) e
        exact this
      rw [ints?_map, ints?_map] at h1
      exact Option.some.inj h1
    exact this ▸ hv
theorem s_law_is_paper {i j1 j2 j3 j4 : Nat} (h : T i = some (g__law_is_paper j1 j2 j3 j4)) (h1 : S_law_sum T glb fuel j1) (h2 : S_law_is_word T glb fuel j2) (h3 : S_law_is_odd T glb fuel j3) (h4 : S_law_is_even T glb fuel j4) : S_law_is_paper T glb fuel i := by
  intro n m ts w x L hw hx
  apply of_wp
  rw [w_fn h rfl rfl]
  have hm0 : 0 ≤ m := by have := L.lo; omega
  by_cases g : ∃ a b, x = .tuple [a, b]
  · obtain ⟨a, v, rfl⟩ := g
    have hv : Ok v := hx.sub v (by simp)
    have ha : Ok a := hx.sub a (by simp)
    cases a with
    | str s =>
      simp
      by_cases g2 : s = "even"
      · subst g2
        simp [isPaper, even_sum, h2 _ m v hv]
        cases e : isWord m v with
        | false => simp [isEven_no e]
        | true =>
          obtain ⟨ev, rfl, hev⟩ := isWord_iff.mp e
          rw [isEven_tI hev]
          cases e3 : ts.all fun t => !dot t ev with
          | false => simp [h4 _ m ts ev L, e3]
          | true => simp [h4 _ m ts ev L, e3, h3 _ w ev (by have := word_len L hw; omega)]
      · by_cases g1 : s = "sum"
        · subst g1
          simp [isPaper, sum_even]
          cases v with
          | tuple us =>
            simp
            have bad : ∀ y ∈ us, (∀ u, y = tI u → u ∉ ts) → isSum m ts w (.tuple us) = false := fun y hy hn => isSum_no (by
              cases e : isTrips m ts (.tuple us) with
              | false => rfl
              | true =>
                obtain ⟨vs, e1, _, _, e2⟩ := isTrips_iff.mp e
                cases e1
                obtain ⟨u, hu, rfl⟩ := List.mem_map.mp hy
                exact absurd (e2 u hu) (hn u rfl))
            refine for_rule (SumI m ts w (.str "sum") (.tuple us) us) ⟨[], none, by simp, rfl, rfl⟩ ?_ ?_
            · rintro y r fr ⟨done, b, hd, hr, rfl⟩
              have hyu : y ∈ us := by rw [← hr]; simp
              have hy : Ok y := hv.sub y hyu
              have hok : okd y = true := hy.okd (by decide)
              simp [h2 _ m y hy]
              cases e : isWord m y with
              | false =>
                simp
                exact bad y hyu fun u eu hu => by
                  subst eu
                  have : isWord m (tI u) = true := isWord_iff.mpr ⟨u, rfl, (L.tr u hu).2⟩
                  rw [this] at e; cases e
              | true =>
                simp [q_nin_t hok (okds_tups ts)]
                cases e2 : (ts.map tI).any fun t => PyData.eqv t y with
                | false =>
                  rw [if_pos (by simpa using e2)]
                  exact bad y hyu fun u eu hu => by
                    have := (trip_of_word L hy e).mpr ⟨u, eu, hu⟩
                    rw [this] at e2; cases e2
                | true =>
                  rw [if_neg (by simpa using e2)]
                  obtain ⟨u, rfl, hu⟩ := (trip_of_word L hy e).mp e2
                  have a1 := len_word hm0 (word_sig (n := m) (ts := done) fun t ht => (L.tr t (hd t ht)).2)
                  have a2 := (L.tr u hu).1
                  have a3 := L.hi
                  simp [h1 _ (sig done) u (by omega)]
                  exact ⟨done ++ [u], _, fun t ht => by
                    rcases List.mem_append.mp ht with h | h
                    · exact hd t h
                    · simp at h; subst h; exact hu, by rw [← hr]; simp, by rw [sig_snoc]⟩
            · rintro fr ⟨done, b, hd, hr, rfl⟩
              rw [List.append_nil] at hr
              subst hr
              have hl := hv.len
              simp at hl
              simp
              rw [zip_adj]
              refine comp_fil (fun p => !decide (p.1 < p.2)) (fun _ => .int 1) (Nat.le_trans (adj_len done) hl) (fun p hp => by by_cases g : p.1 < p.2 <;> simp [g]) ?_
              have hok2 : okd (.list (List.map (fun _ => PyData.int 1) ((adj done).filter fun p => !decide (p.1 < p.2)))) = true := okd_lm (fun _ => okn_int 39 1) _
              have e : ((adj done).filter fun p => !decide (p.1 < p.2)).isEmpty = decide (Ris done) := by
                rw [Bool.eq_iff_iff]
                simp [adjT', Ris]
              have e3 : isTrips m ts (.tuple (done.map tI)) = decide (Ris done) := by
                rw [trips_eq fun u hu => L.tr u (hd u hu), Bool.eq_iff_iff]
                simp [Ris]
                exact fun _ => hd
              simp [q_eq_lnil hok2]
              rw [e]
              by_cases g : Ris done
              · rw [if_pos (by simpa using g), isSum_tI (by rw [e3]; simpa using g)]
              · rw [if_neg (by simpa using g), isSum_no (by rw [e3]; simpa using g)]
          | dict _ => cases hv.plain
          | _ => simp [isSum]
        · simp [isPaper, g1, g2]
    | dict _ => cases ha.plain
    | _ => simp [isPaper]
  · have hno : isPaper m ts w x = false := by
      unfold isPaper
      split
      · exact absurd ⟨_, _, rfl⟩ g
      · rfl
    rw [hno]
    cases x with
    | tuple xs =>
      simp
      have : (xs.length : Int) ≠ 2 := fun e => by
        match xs, e with
        | [a, b], _ => exact g ⟨a, b, rfl⟩
        | [], e => simp at e
        | [a], e => simp at e
        | a :: b :: c :: r, e => simp at e; omega
      simp [this]
    | dict _ => cases hx.plain
    | _ => simp
/-! values changed at one place -/
def SpQ (k : Nat) (q : M × Fr) : Prop := ∃ p' y, Pot p' ∧ Nice 2001 (k + 2) y ∧ q = (.d y, [some (.lst p'), none, none])
abbrev S_spoilt (T : Nat → Option Fn) (glb : Nat → Option D) (fuel i : Nat) : Prop := ∀ (dep n k : Nat) (p : List D) (x : D), Pot p → k ≤ 30 → Sm k x → wp (callN T glb fuel (n + dep + 4) i [.lst p, .d x, .d (.int dep)]) (SpQ k)
theorem use_pick {n j : Nat} {p xs : List D} {Q : M × Fr → Prop} (h1 : S_pick T glb fuel j) (hp : Pot p) (hne : xs ≠ []) (hl : xs.length < 1000000000) (hq : ∀ p' x, Pot p' → x ∈ xs → Q (.d x, [some (.lst p'), none])) : wp (callN T glb fuel (n + 2) j [.lst p, .lst xs]) Q := by
  obtain ⟨p', x, hp', hx, e⟩ := h1 n p xs (.lst xs) hp hne hl (.inl rfl)
  rw [e, wp_ok]
  exact hq p' x hp' hx
theorem use_pickt {n j : Nat} {p xs : List D} {Q : M × Fr → Prop} (h1 : S_pick T glb fuel j) (hp : Pot p) (hne : xs ≠ []) (hl : xs.length < 1000000000) (hq : ∀ p' x, Pot p' → x ∈ xs → Q (.d x, [some (.lst p'), none])) : wp (callN T glb fuel (n + 2) j [.lst p, .d (.tuple xs)]) Q := by
  obtain ⟨p', x, hp', hx, e⟩ := h1 n p xs (.d (.tuple xs)) hp hne hl (.inr rfl)
  rw [e, wp_ok]
  exact hq p' x hp' hx
theorem use_draw {n j : Nat} {p : List D} {m : Int} {Q : M × Fr → Prop} (h1 : S_draw T glb fuel j) (hp : Pot p) (h2 : 0 < m) (hl : m < 1073741824) (hq : ∀ p' d, Pot p' → 0 ≤ d → d < m → Q (.d (.int d), [some (.lst p'), none])) : wp (callN T glb fuel (n + 1) j [.lst p, .d (.int m)]) Q := by
  obtain ⟨p', d, hp', h0, hd, e⟩ := h1 n p m hp h2 hl
  rw [e, wp_ok]
  exact hq p' d hp' h0 hd
theorem sm_sub {k : Nat} {xs : List D} (h : Sm (k + 1) (.tuple xs)) : xs.length ≤ 1000 ∧ ∀ y ∈ xs, Sm k y := by
  rcases h with ⟨i, e, _⟩ | ⟨s, e⟩ | ⟨ys, e, h⟩
  · cases e
  · cases e
  · cases e; exact h
theorem nice_spT {k : Nat} {xs : List D} (h : Nice 2001 (k + 1) (.tuple xs)) (hl : xs.length ≤ 1000) : ∀ y, y ∈ [PyData.list xs, .tuple (xs ++ xs.take 1), .tuple xs.tail, .tuple (xs.tail ++ xs.take 1), .tuple xs.reverse, .tuple [.tuple xs, .tuple xs]] → Nice 2001 (k + 1 + 2) y := by
  have h2 := (nice_tuple.mp h).2
  intro y hy
  simp only [List.mem_cons, List.not_mem_nil, or_false] at hy
  have m1 : ∀ z : D, Nice 2001 k z → Nice 2001 (k + 2) z := fun z hz => hz.mono (by omega)
  have ht : ∀ z ∈ xs.take 1, z ∈ xs := fun z hz => List.mem_of_mem_take hz
  have ht2 : ∀ z ∈ xs.tail, z ∈ xs := fun z hz => List.mem_of_mem_tail hz
  rcases hy with rfl | rfl | rfl | rfl | rfl | rfl
  · exact nice_list.mpr ⟨by omega, fun z hz => m1 z (h2 z hz)⟩
  · exact nice_tuple.mpr ⟨by simp; omega, fun z hz => m1 z (h2 z ((List.mem_append.mp hz).elim id (ht z)))⟩
  · exact nice_tuple.mpr ⟨by simp; omega, fun z hz => m1 z (h2 z (ht2 z hz))⟩
  · exact nice_tuple.mpr ⟨by simp; omega, fun z hz => m1 z (h2 z ((List.mem_append.mp hz).elim (ht2 z) (ht z)))⟩
  · exact nice_tuple.mpr ⟨by simp; omega, fun z hz => m1 z (h2 z (List.mem_reverse.mp hz))⟩
  · exact nice_tuple.mpr ⟨by simp, fun z hz => by
      simp at hz
      subst hz
      exact h.mono (by omega)⟩
theorem s_spoilt {i j1 j2 : Nat} (h : T i = some (g__law_spoilt j1 j2 i)) (h1 : S_pick T glb fuel j1) (h2 : S_draw T glb fuel j2) : S_spoilt T glb fuel i := by
  have hline : line = 16777216 := rfl
  have onInt : ∀ (n k : Nat) (p : List D) (a dep : Int), Pot p → -1000 ≤ a → a ≤ 1000 → wp (callN T glb fuel (n + 4) i [.lst p, .d (.int a), .d (.int dep)]) (SpQ k) := fun n k p a dep hp h3 h4 => by
    rw [w_fn h rfl rfl]
    have s1 : ∀ fr Q, opQ .str [.int a] fr Q = Q (.d (.str (toString a)), fr) := fun fr Q => opQ_of (by
      have : a.natAbs.log2 < 1920 := by
        by_cases g : a.natAbs = 0
        · rw [g]; decide
        · exact (Nat.log2_lt g).mpr (Nat.lt_of_lt_of_le (show a.natAbs < 2 ^ 10 by omega) (Nat.pow_le_pow_right (by decide) (by decide)))
      simp [opsem, strS, this])
    have m1 : mulOk a 2 = true := mulOk_r (by decide) (by decide)
    simp [s1, q_mul m1]
    refine use_pick h1 hp (by simp) (by simp) fun p' y hp' hy => ?_
    simp
    refine ⟨p', y, hp', ?_, rfl⟩
    simp at hy
    rcases hy with rfl | rfl | rfl | rfl | rfl | rfl | rfl <;> first | exact nice_int .. | exact nice_bool .. | exact nice_str .. | exact nice_tuple.mpr ⟨by simp, by simp⟩
  have onStr : ∀ (n k : Nat) (p : List D) (s : Str) (dep : Int), Pot p → wp (callN T glb fuel (n + 4) i [.lst p, .d (.str s), .d (.int dep)]) (SpQ k) := fun n k p s dep hp => by
    rw [w_fn h rfl rfl]
    simp
    exact ⟨p, .none, hp, by simp, rfl⟩
  intro dep
  induction dep with
  | zero =>
    intro n k p x hp hk hx
    cases k with
    | zero =>
      rcases hx with ⟨a, rfl, h3, h4⟩ | ⟨s, rfl⟩
      · exact onInt n 0 p a 0 hp h3 h4
      · exact onStr n 0 p s 0 hp
    | succ k =>
      rcases hx with ⟨a, rfl, h3, h4⟩ | ⟨s, rfl⟩ | ⟨xs, rfl, hl, hs⟩
      · exact onInt n (k + 1) p a 0 hp h3 h4
      · exact onStr n (k + 1) p s 0 hp
      · have hn : Nice 2001 (k + 1) (.tuple xs) := nice_tuple.mpr ⟨by omega, fun y hy => (hs y hy).nice⟩
        rw [w_fn h rfl rfl]
        simp [q_ne_tnil (hn.okd (by omega)), q_add_t (show xs.length + (xs.take 1).length ≤ line by simp; omega), q_add_t (show xs.tail.length + (xs.take 1).length ≤ line by simp; omega)]
        refine use_pick h1 hp (by simp) (by simp) fun p' y hp' hy => ?_
        simp
        exact ⟨p', y, hp', nice_spT hn hl y hy, rfl⟩
  | succ dep ih =>
    intro n k p x hp hk hx
    cases k with
    | zero =>
      rcases hx with ⟨a, rfl, h3, h4⟩ | ⟨s, rfl⟩
      · exact onInt (n + (dep + 1)) 0 p a _ hp h3 h4
      · exact onStr (n + (dep + 1)) 0 p s _ hp
    | succ k =>
      rcases hx with ⟨a, rfl, h3, h4⟩ | ⟨s, rfl⟩ | ⟨xs, rfl, hl, hs⟩
      · exact onInt (n + (dep + 1)) (k + 1) p a _ hp h3 h4
      · exact onStr (n + (dep + 1)) (k + 1) p s _ hp
      · have hn : Nice 2001 (k + 1) (.tuple xs) := nice_tuple.mpr ⟨by omega, fun y hy => (hs y hy).nice⟩
        rw [show n + (dep + 1) + 4 = (n + dep + 4) + 1 from rfl, w_fn h rfl rfl]
        have e1 := q_add_t (fr := []) (Q := fun _ => True) (show xs.length + (xs.take 1).length ≤ line by simp; omega)
        by_cases g : xs = []
        · have hE : xs.isEmpty = true := by rw [g]; rfl
          simp [q_ne_tnil (hn.okd (by omega)), hE, q_add_t (show xs.length + (xs.take 1).length ≤ line by simp; omega), q_add_t (show xs.tail.length + (xs.take 1).length ≤ line by simp; omega)]
          refine use_pick h1 hp (by simp) (by simp) fun p' y hp' hy => ?_
          simp
          exact ⟨p', y, hp', nice_spT hn hl y hy, rfl⟩
        · have hpos : 0 < xs.length := List.length_pos_iff.mpr g
          simp [q_ne_tnil (hn.okd (by omega)), g]
          refine use_draw h2 hp (by decide) (by decide) fun p1 d hp1 hd1 hd2 => ?_
          simp
          by_cases gd : 0 < d
          · simp [gd]
            refine use_draw h2 hp1 (by omega) (by omega) fun p2 k2 hp2 hk0 hk2 => ?_
            have hx2 : xs[k2.toNat]? = some xs[k2.toNat] := List.getElem?_eq_getElem (by omega)
            simp [q_toI_t hk0, q_idx_t hk0 hx2]
            refine wp_mono (ih n k p2 xs[k2.toNat] hp2 (by omega) (hs _ (List.getElem_mem _))) fun q hq => ?_
            obtain ⟨p3, y, hp3, hy, rfl⟩ := hq
            have l1 : (xs.take k2.toNat).length + [y].length ≤ line := by simp; omega
            have l2 : (xs.take k2.toNat ++ [y]).length + (xs.drop (k2 + 1).toNat).length ≤ line := by simp; omega
            simp [q_add_t l1]
            rw [q_fromI_t (show 0 ≤ k2 + 1 by omega)]
            simp
            rw [q_add_t l2]
            simp
            refine ⟨p3, _, hp3, ?_, rfl⟩
            refine nice_tuple.mpr ⟨by simp; omega, fun z hz => ?_⟩
            simp at hz
            rcases hz with hz | rfl | hz
            · exact ((hs z (List.mem_of_mem_take hz)).nice).mono (by omega)
            · exact hy.mono (by omega)
            · exact ((hs z (List.mem_of_mem_drop hz)).nice).mono (by omega)
          · simp [gd, q_add_t (show xs.length + (xs.take 1).length ≤ line by simp; omega), q_add_t (show xs.tail.length + (xs.take 1).length ≤ line by simp; omega)]
            refine use_pick h1 hp1 (by simp) (by simp) fun p' y hp' hy => ?_
            simp
            exact ⟨p', y, hp', nice_spT hn hl y hy, rfl⟩
/-! what is made of a paper -/
def BendQ (q : M × Fr) : Prop := ∃ p' vs, Pot p' ∧ (∀ v ∈ vs, Ok v) ∧ q = (.lst vs, [some (.lst p'), none, none, none])
def TurnI (N : Nat) (m1 m2 m3 m4 m5 : Option M) (r ys : List D) (fr : Fr) : Prop := ∃ (p : List D) (a : Option M), Pot p ∧ (∀ y ∈ ys, Ok y) ∧ ys.length + r.length ≤ N ∧ fr = [some (.lst p), m1, m2, m3, m4, m5, a, none]
def bend0 (m : Int) (ts : List (List Int)) (w : List Int) (s : Str) (us : List D) : List D := [.tuple [.str s, .tuple us], .list [.str s, .tuple us], .tuple [.str s], .tuple [.str s, .tuple us, .int 0], .tuple [.tuple us, .str s], .tuple [.str "sum", .tuple us], .tuple [.str "even", .tuple us], .tuple [.str "Sum", .tuple us], .tuple [.none, .tuple us], .none, .tuple [],
  .tuple [.str "sum", .tuple []], .tuple [.str "even", .tuple []], .tuple [.str "sum", .none], .tuple [.str "sum", .tuple (ts.map tI)], .tuple [.str "sum", .tuple (ts.map tI).reverse], trueK 3 (.tuple [.str s, .tuple us]), .tuple [.str "even", tI w], .tuple [.str "even", .tuple (rngD 0 m)],
  .tuple [.str "sum", .tuple us.tail], .tuple [.str "sum", .tuple us.reverse], .tuple [.str "sum", .list us], .tuple [.str "sum", .tuple (us ++ us)], .tuple [.str "even", .tuple us.tail], .tuple [.str "even", .tuple us.reverse], .tuple [.str "even", .list us], .tuple [.str "even", .tuple [.int 99]]]
theorem nice2 {n k : Nat} {a b : D} (hn : 2 ≤ n) (h1 : Nice n k a) (h2 : Nice n k b) : Nice n (k + 1) (.tuple [a, b]) := nice_tuple.mpr ⟨hn, fun y hy => by
  simp at hy
  rcases hy with rfl | rfl
  · exact h1
  · exact h2⟩
abbrev S_bends (T : Nat → Option Fn) (glb : Nat → Option D) (fuel i : Nat) : Prop := ∀ (n : Nat) (p : List D) (m : Int) (ts : List (List Int)) (w : List Int) (s : Str) (us : List D), Pot p → Lot m ts → ts.length ≤ 1000 → Word m w → Sm 3 (.tuple [.str s, .tuple us]) → wp (callN T glb fuel (n + 9) i [.lst p, .d (lotD m ts), .d (tI w), .d (.tuple [.str s, .tuple us])]) BendQ
theorem s_bends {i j1 j2 j3 : Nat} (h : T i = some (g__law_bends j1 j2 j3)) (h1 : S_spoilt T glb fuel j1) (h2 : S_word T glb fuel j2) (h3 : S_true T glb fuel j3) : S_bends T glb fuel i := by
  intro n p m ts w s us hp L hts hw hsm
  rw [w_fn h rfl rfl]
  have hline : line = 16777216 := rfl
  have hlo := L.lo
  have hhi := L.hi
  have hu : Sm 2 (.tuple us) := (sm_sub hsm).2 _ (by simp)
  have hul := (sm_sub hu).1
  have hus := (sm_sub hu).2
  have hn : ∀ y ∈ us, Nice 1000000 36 y := fun y hy => ((hus y hy).nice.wide (by decide)).mono (by decide)
  have htd : Nice 1000000 37 (.tuple us) := nice_tuple.mpr ⟨by omega, hn⟩
  have sm6 : smallI 6 = true := rfl
  have sm5 : smallI 5 = true := rfl
  have smm : smallI m = true := smallOf (by omega) (by omega)
  have l1 : us.length + us.length ≤ line := by omega
  have l0 : ([.str s, .tuple us] : List D).length + ([.int 0] : List D).length ≤ line := by simp [line]
  have hT : ∀ t : List D, t.length ≤ 3000 → (∀ y ∈ t, y ∈ us) → ∀ k, 37 ≤ k → Nice 1000000 k (.tuple t) := fun t hl hm k hk => (nice_tuple.mpr ⟨by omega, fun y hy => hn y (hm y hy)⟩ : Nice 1000000 37 (.tuple t)).mono hk
  have hTl : Nice 1000000 39 (.list us) := (nice_list.mpr ⟨by omega, fun y hy => hn y hy⟩ : Nice 1000000 37 (.list us)).mono (by decide)
  have hus' := hT us (by omega) (fun _ h => h)
  have htl := hT us.tail (by simp; omega) (fun _ h => List.mem_of_mem_tail h)
  have hrv := hT us.reverse (by simp; omega) (fun _ h => List.mem_reverse.mp h)
  have hdb := hT (us ++ us) (by simp; omega) (fun _ h => (List.mem_append.mp h).elim id id)
  have hts' : Nice 1000000 39 (.tuple (ts.map tI)) := nice_tups (k := 37) (by omega) fun t ht => by rw [(L.tr t ht).1]; decide
  have htsr : Nice 1000000 39 (.tuple (ts.map tI).reverse) := by
    rw [← List.map_reverse]
    exact nice_tups (k := 37) (by simp; omega) fun t ht => by rw [(L.tr t (List.mem_reverse.mp ht)).1]; decide
  have hwn : Nice 1000000 39 (tI w) := nice_ints (k := 38) (by have := word_len L hw; omega)
  have hrg : Nice 1000000 39 (.tuple (rngD 0 m)) := by
    rw [rngD_eq]
    exact nice_ints (k := 38) (by simp; omega)
  have hF : ∀ v ∈ bend0 m ts w s us, Ok v := by
    intro v hv
    unfold bend0 at hv
    simp only [List.mem_cons, List.not_mem_nil, or_false] at hv
    have a39 := hus' 39 (by decide)
    rcases hv with rfl | rfl | rfl | rfl | rfl | rfl | rfl | rfl | rfl | rfl | rfl | rfl | rfl | rfl | rfl | rfl | rfl | rfl | rfl | rfl | rfl | rfl | rfl | rfl | rfl | rfl | rfl
    · exact nice2 (by decide) (by simp) a39
    · exact nice_list.mpr ⟨by simp, by simpa using a39⟩
    · exact nice_tuple.mpr ⟨by simp, by simp⟩
    · exact nice_tuple.mpr ⟨by simp, by simpa using a39⟩
    · exact nice2 (by decide) a39 (by simp)
    · exact nice2 (by decide) (by simp) a39
    · exact nice2 (by decide) (by simp) a39
    · exact nice2 (by decide) (by simp) a39
    · exact nice2 (by decide) (by simp) a39
    · simp
    · exact nice_tuple.mpr ⟨by simp, by simp⟩
    · exact nice2 (by decide) (by simp) (nice_tuple.mpr ⟨by simp, by simp⟩)
    · exact nice2 (by decide) (by simp) (nice_tuple.mpr ⟨by simp, by simp⟩)
    · exact nice2 (by decide) (by simp) (by simp)
    · exact nice2 (by decide) (by simp) hts'
    · exact nice2 (by decide) (by simp) htsr
    · exact (nice_trueK (hsm.nice.wide (by decide))).mono (by decide)
    · exact nice2 (by decide) (by simp) hwn
    · exact nice2 (by decide) (by simp) hrg
    · exact nice2 (by decide) (by simp) (htl 39 (by decide))
    · exact nice2 (by decide) (by simp) (hrv 39 (by decide))
    · exact nice2 (by decide) (by simp) hTl
    · exact nice2 (by decide) (by simp) (hdb 39 (by decide))
    · exact nice2 (by decide) (by simp) (htl 39 (by decide))
    · exact nice2 (by decide) (by simp) (hrv 39 (by decide))
    · exact nice2 (by decide) (by simp) hTl
    · exact nice2 (by decide) (by simp) (nice_tuple.mpr ⟨by simp, by simp⟩)
  have hFl : (bend0 m ts w s us).length = 27 := rfl
  have l0 : ([.str s, .tuple us] : List D).length + ([.int 0] : List D).length ≤ line := by simp [line]
  simp [q_add_t l0, h3 3 (n + 3) _ hsm, q_trng1 smm (by omega), iter_r1' sm6, iter_r1' sm5, q_add_t l1]
  have hb : bend0 m ts w s us = [.tuple [.str s, .tuple us], .list [.str s, .tuple us], .tuple [.str s], .tuple [.str s, .tuple us, .int 0], .tuple [.tuple us, .str s], .tuple [.str "sum", .tuple us], .tuple [.str "even", .tuple us], .tuple [.str "Sum", .tuple us], .tuple [.none, .tuple us], .none, .tuple [],
  .tuple [.str "sum", .tuple []], .tuple [.str "even", .tuple []], .tuple [.str "sum", .none], .tuple [.str "sum", .tuple (ts.map tI)], .tuple [.str "sum", .tuple (ts.map tI).reverse], trueK 3 (.tuple [.str s, .tuple us]), .tuple [.str "even", tI w], .tuple [.str "even", .tuple (rngD 0 m)],
  .tuple [.str "sum", .tuple us.tail], .tuple [.str "sum", .tuple us.reverse], .tuple [.str "sum", .list us], .tuple [.str "sum", .tuple (us ++ us)], .tuple [.str "even", .tuple us.tail], .tuple [.str "even", .tuple us.reverse], .tuple [.str "even", .list us], .tuple [.str "even", .tuple [.int 99]]] := rfl
  rw [← hb]
  generalize bend0 m ts w s us = F at hF hFl
  refine ⟨by decide, by decide, ?_⟩
  refine comp_rule (TurnI 6 (some (.d (lotD m ts))) (some (.d (tI w))) (some (.d (.tuple [.str s, .tuple us]))) (some (.d (.tuple us))) (some (.lst F))) ?_ ?_ ⟨p, none, hp, by simp, by simp, rfl⟩
  · rintro x r ys fr ⟨p, a, hp, hy, hl, rfl⟩
    obtain ⟨p', w', hp', hw', e⟩ := h2 (n + 6) p m hp (by omega) hhi
    simp [e]
    refine ⟨p', some (.d x), hp', fun y hy' => ?_, by simp at hl ⊢; omega, rfl⟩
    rcases List.mem_append.mp hy' with h | h
    · exact hy y h
    · simp at h
      subst h
      exact nice2 (by decide) (by simp) (nice_ints (k := 38) (by have := word_len L hw'; omega))
  · rintro ys fr ⟨p, a, hp, hy, hl, rfl⟩
    simp
    refine ⟨by simp at hl; omega, by simp at hl; omega, ?_⟩
    rw [← List.map_take]
    refine comp_map (fun t => .tuple [.str "sum", .tuple [tI t]]) (by simp; omega) (fun t ht => by simp) ?_
    have hA : ∀ v ∈ (ts.take 3).map (fun t => PyData.tuple [.str "sum", .tuple [tI t]]), Ok v := fun v hv => by
      obtain ⟨t, ht, rfl⟩ := List.mem_map.mp hv
      refine nice2 (by decide) (by simp) (nice_tuple.mpr ⟨by simp, fun y hy => ?_⟩)
      simp at hy
      subst hy
      exact nice_ints (k := 37) (by rw [(L.tr t (List.mem_of_mem_take ht)).1]; decide)
    have hAl : ((ts.take 3).map (fun t => PyData.tuple [.str "sum", .tuple [tI t]])).length ≤ 3 := by simp; omega
    generalize (ts.take 3).map (fun t => PyData.tuple [.str "sum", .tuple [tI t]]) = A at hA hAl
    simp
    have l2 : A.length + ([.tuple [.str "sum", .tuple [.tuple [.int 0, .int 1, .int 2], .tuple [.int 0, .int 1, .int 3]]]] : List D).length ≤ line := by simp; omega
    simp [q_add_l l2, iter_r1' sm5]
    refine ⟨by simp at hl; omega, ?_⟩
    have hB : ∀ v ∈ F ++ (ys ++ (A ++ [PyData.tuple [.str "sum", .tuple [.tuple [.int 0, .int 1, .int 2], .tuple [.int 0, .int 1, .int 3]]]])), Ok v := fun v hv => by
      simp at hv
      rcases hv with h | h | h | rfl
      · exact hF v h
      · exact hy v h
      · exact hA v h
      · refine nice2 (by decide) (by simp) (nice2 (by decide) ?_ ?_) <;> exact nice_tuple.mpr ⟨by simp, by simp⟩
    have hBl : (F ++ (ys ++ (A ++ [PyData.tuple [.str "sum", .tuple [.tuple [.int 0, .int 1, .int 2], .tuple [.int 0, .int 1, .int 3]]]]))).length ≤ 100 := by simp at hl ⊢; omega
    generalize F ++ (ys ++ (A ++ [PyData.tuple [.str "sum", .tuple [.tuple [.int 0, .int 1, .int 2], .tuple [.int 0, .int 1, .int 3]]]])) = B at hB hBl
    refine comp_rule (TurnI 5 (some (.d (lotD m ts))) (some (.d (tI w))) (some (.d (.tuple [.str s, .tuple us]))) (some (.d (.tuple us))) (some (.lst B))) ?_ ?_ ⟨p, none, hp, by simp, by simp, rfl⟩
    · rintro x r zs fr ⟨p, a, hp, hz, hl2, rfl⟩
      simp
      refine wp_mono (h1 4 n 3 p _ hp (by decide) hsm) fun q hq => ?_
      obtain ⟨p', y, hp', hy', rfl⟩ := hq
      simp
      refine ⟨p', some (.d x), hp', fun z hz' => ?_, by simp at hl2 ⊢; omega, rfl⟩
      rcases List.mem_append.mp hz' with h | h
      · exact hz z h
      · simp at h
        subst h
        exact (hy'.wide (by decide)).mono (by decide)
    · rintro zs fr ⟨p, a, hp, hz, hl2, rfl⟩
      simp at hl2
      simp [q_add_l (show B.length + zs.length ≤ line by omega)]
      exact ⟨by omega, p, B ++ zs, hp, fun v hv => (List.mem_append.mp hv).elim (hB v) (hz v), rfl⟩
theorem paper_shape {m : Int} {ts : List (List Int)} {w : List Int} {x : D} (L : Lot m ts) (hts : ts.length ≤ 1000) (h : PaperOk m ts w x) : ∃ s us, x = .tuple [.str s, .tuple us] ∧ Sm 3 (.tuple [.str s, .tuple us]) := by
  have pair : ∀ (s : Str) (us : List D), Sm 2 (.tuple us) → Sm 3 (.tuple [.str s, .tuple us]) := fun s us hu => .inr (.inr ⟨_, rfl, by simp, fun y hy => by
    simp at hy
    rcases hy with rfl | rfl
    · exact .inr (.inl ⟨s, rfl⟩)
    · exact hu⟩)
  have hb : ∀ t, Word m t → ∀ a ∈ t, -1000 ≤ a ∧ a ≤ 1000 := fun t ht a ha => by
    have := ht.1 a ha
    have := L.hi
    omega
  rcases h with ⟨us, rfl, O⟩ | ⟨e, rfl, O⟩
  · refine ⟨_, _, rfl, pair _ _ (.inr (.inr ⟨_, rfl, ?_, fun y hy => ?_⟩))⟩
    · have := len_sub (nodup_risT O.ris) O.sub
      simp
      omega
    · obtain ⟨t, ht, rfl⟩ := List.mem_map.mp hy
      have := L.tr t (O.sub t ht)
      exact sm_ints (k := 0) (hb t this.2) (by rw [this.1]; decide)
  · refine ⟨_, _, rfl, pair _ _ ?_⟩
    exact sm_ints (k := 1) (hb e O.word) (by have := word_len L O.word; omega)
def RightQ (q : M × Fr) : Prop := ∃ p', Pot p' ∧ q = (.d (.bool true), [some (.lst p')])
def OutI (m : Int) (ts W : List (List Int)) (r : List D) (fr : Fr) : Prop := ∃ (p : List D) (rest : List (List Int)) (a b c : Option M), Pot p ∧ r = rest.map tI ∧ (∀ w ∈ rest, Word m w) ∧ fr = [some (.lst p), some (.d (lotD m ts)), some (.d (.list (W.map tI))), a, b, c]
def InI (m : Int) (ts W : List (List Int)) (w : List Int) (r : List D) (fr : Fr) : Prop := ∃ (p : List D) (b c : Option M), Pot p ∧ (∀ v ∈ r, Ok v) ∧ fr = [some (.lst p), some (.d (lotD m ts)), some (.d (.list (W.map tI))), some (.d (tI w)), b, c]
abbrev S_right (T : Nat → Option Fn) (glb : Nat → Option D) (fuel i : Nat) : Prop := ∀ (n : Nat) (p : List D), Pot p → 100000 ≤ fuel → wp (callN T glb fuel (n + 10) i [.lst p]) RightQ
theorem s_right {i j1 j2 j3 j4 j5 j6 j7 j8 j9 : Nat} (h : T i = some (g__law_right j1 j2 j3 j4 j5 j6 j7 j8 j9)) (h1 : S_bends T glb fuel j1) (h2 : S_word_paper T glb fuel j2) (h3 : S_law_is_paper T glb fuel j3) (h4 : S_is_word_paper T glb fuel j4) (h5 : S_pick T glb fuel j5) (h6 : S_law_sum T glb fuel j6) (h7 : S_word T glb fuel j7) (h8 : S_any T glb fuel j8) (h9 : S_draw T glb fuel j9) : S_right T glb fuel i := by
  intro n p hp hf
  rw [w_fn h rfl rfl]
  simp
  refine use_draw h9 hp (by decide) (by decide) fun p1 d hp1 hd0 hd => ?_
  simp
  obtain ⟨p2, ts, hp2, L, hts, e⟩ := h8 (n + 6) p1 (3 + d) 6 hp1 (by omega) (by omega) (by decide) (by decide) hf
  have hts' : ts.length ≤ 1000 := by omega
  simp [e]
  obtain ⟨p3, w1, hp3, hw1, e3⟩ := h7 (n + 7) p2 (3 + d) hp2 (by omega) (by omega)
  simp [e3, q_ne_tnil (okd_tups ts)]
  have main : ∀ (p : List D) (W : List (List Int)) (a b c : Option M), Pot p → (∀ w ∈ W, Word (3 + d) w) → wp (exS (cx T glb fuel (n + 9) [0]) (.cons (.loop [3] .seq (.cons (.var 2) .nil) (.cons (.loop [4] .seq (.cons (.call j1 none (.cons (.bor 0) (.cons (.bor 1) (.cons (.bor 3) (.cons (.call j2 none (.cons (.bor 1) (.cons (.bor 3) .nil))) .nil))))) .nil) (.cons (.asg 5 (.call j4 none (.cons (.bor 1) (.cons (.bor 3) (.cons (.bor 4) .nil)))))
    (.cons (.ite (.or (.not (.tst (.op (.isi [.bool]) (.cons (.bor 5) .nil)))) (.tst (.op .ne (.cons (.bor 5) (.cons (.call j3 none (.cons (.bor 1) (.cons (.bor 3) (.cons (.bor 4) .nil)))) .nil))))) (.cons (.ret (.cst (.bool false)))
    .nil) .nil)
    .nil))) .nil)) (.cons (.ret (.cst (.bool true))) .nil)) [some (.lst p), some (.d (lotD (3 + d) ts)), some (.lst (W.map tI)), a, b, c]) (KFin 1 [0] RightQ) := by
    intro p W a b c hp hW
    simp
    refine for_rule (OutI (3 + d) ts W) ⟨p, W, a, b, c, hp, rfl, hW, rfl⟩ ?_ ?_
    · rintro x r fr ⟨p, rest, a, b, c, hp, hr, hrest, rfl⟩
      cases rest with
      | nil => cases hr
      | cons w rest =>
        cases hr
        have hw := hrest w (by simp)
        obtain ⟨x, hx, e4⟩ := h2 (n + 1) (3 + d) ts w L hw
        obtain ⟨s, us, rfl, hsm⟩ := paper_shape L hts' hx
        simp [e4]
        refine wp_mono (h1 n p (3 + d) ts w s us hp L hts' hw hsm) fun q hq => ?_
        obtain ⟨p', vs, hp', hvs, rfl⟩ := hq
        simp
        refine for_rule (InI (3 + d) ts W w) ⟨p', b, c, hp', hvs, rfl⟩ ?_ ?_
        · rintro v r2 fr ⟨p, b, c, hp, hv, rfl⟩
          have hvk := hv v (by simp)
          simp [h4 (n + 1) (3 + d) ts w v L hw hvk, h3 (n + 6) (3 + d) ts w v L hw hvk]
          exact ⟨p, _, _, hp, fun v hv' => hv v (by simp [hv']), rfl⟩
        · rintro fr ⟨p, b, c, hp, hv, rfl⟩
          simp
          exact ⟨p, rest, _, _, _, hp, rfl, fun w hw' => hrest w (by simp [hw']), rfl⟩
    · rintro fr ⟨p, rest, a, b, c, hp, hr, hrest, rfl⟩
      simp
      exact ⟨p, hp, rfl⟩
  by_cases g : ts = []
  · simp [g]
    have := main p3 [w1, []] none none none hp3 (fun w hw => by
      simp at hw
      rcases hw with rfl | rfl
      · exact hw1
      · exact ⟨by simp, .nil⟩)
    subst g
    simp at this
    exact this
  · simp [g]
    have hpos : 0 < ts.length := List.length_pos_iff.mpr g
    have hne : ts.map tI ≠ [] := by simpa using g
    have hlen : (ts.map tI).length < 1000000000 := by simp; omega
    refine use_pickt h5 hp3 hne hlen fun p4 x4 hp4 hx4 => ?_
    obtain ⟨t4, ht4, rfl⟩ := List.mem_map.mp hx4
    simp
    refine use_pickt h5 hp4 hne hlen fun p5 x5 hp5 hx5 => ?_
    obtain ⟨t5, ht5, rfl⟩ := List.mem_map.mp hx5
    simp
    refine use_pickt h5 hp5 hne hlen fun p6 x6 hp6 hx6 => ?_
    obtain ⟨t6, ht6, rfl⟩ := List.mem_map.mp hx6
    have a4 := L.tr t4 ht4
    have a5 := L.tr t5 ht5
    have a6 := L.tr t6 ht6
    simp [h6 _ t5 t6 (by rw [a5.1, a6.1]; decide)]
    refine ⟨by decide, ?_⟩
    have := main p6 [w1, [], t4, sumW t5 t6] none none none hp6 (fun w hw => by
      simp at hw
      rcases hw with rfl | rfl | rfl | rfl
      · exact hw1
      · exact ⟨by simp, .nil⟩
      · exact a4.2
      · exact word_sumW a5.2 a6.2)
    simp at this
    exact this
abbrev S_law (T : Nat → Option Fn) (glb : Nat → Option D) (fuel i : Nat) : Prop := ∀ (n : Nat) (ns : List Int), 100000 ≤ fuel → callN T glb fuel (n + 11) i [.d (.list (ns.map .int))] = .ok (.d (.bool true), [none])
theorem s_law {i j1 j2 : Nat} (h : T i = some (g_law j1 j2)) (h1 : S_right T glb fuel j1) (h2 : S_pot T glb fuel j2) : S_law T glb fuel i := by
  intro n ns hf
  apply of_wp
  rw [w_fn h rfl rfl]
  obtain ⟨p0, hp0, e0⟩ := h2 (n + 9) ns 0 (by decide) (by decide)
  obtain ⟨p1, hp1, e1⟩ := h2 (n + 9) ns 1 (by decide) (by decide)
  simp [e0]
  refine wp_mono (h1 n p0 hp0 hf) fun q hq => ?_
  obtain ⟨p', hp', rfl⟩ := hq
  simp [e1]
  refine wp_mono (h1 n p1 hp1 hf) fun q hq => ?_
  obtain ⟨p', hp', rfl⟩ := hq
  simp
end
end Mn
/-! k71: made words, ranks, papers of one word. -/
namespace Mn
open PySem
/-- short when shown -/
structure Sh (N : Nat) (x : D) : Prop where
  can : x.showable = true
  small : x.leavesShort 16 = true
  few : x.weight ≤ N
theorem Sh.mono {N N' : Nat} {x : D} (h : Sh N x) (l : N ≤ N') : Sh N' x := ⟨h.can, h.small, Nat.le_trans h.few l⟩
theorem q_repr {fr : Fr} {Q : M × Fr → Prop} {x : D} (h : okd x = true) (g : Sh 900000 x) : opQ .repr [x] fr Q = Q (.d (.str x.shown), fr) := opQ_of (by
  have a := PyData.shown_le 16 (by decide) x g.small
  have b : x.shown.length ≤ line := by
    have := g.few
    simp [line]
    omega
  simp only [opsem, reprS, h, g.can, b, Bool.and_self, decide_true, if_true])
@[simp] theorem sh_bool (N : Nat) (b : Bool) : Sh N (.bool b) := ⟨by simp [PyData.showable], by simp [PyData.leavesShort], by simp [PyData.weight]⟩
theorem sh_int {i : Int} (h0 : 0 ≤ i) (h : i < 1024) : Sh 10 (.int i) := by
  have l : i.natAbs.log2 < 10 := by
    by_cases z : i.natAbs = 0
    · rw [z]; decide
    · exact (Nat.log2_lt z).mpr (by omega)
  refine ⟨?_, ?_, ?_⟩
  · simp only [PyData.showable, decide_eq_true_eq]
    omega
  · simp only [PyData.leavesShort, decide_eq_true_eq, PyData.shown]
    have := int_text_length_le10 (a := i) (k := 4) (by decide) (by omega)
    have e : (Str.ofString (toString i)).length = (toString i).length := PySem.ofString_length _
    have e2 : (Str.ofString (toString i)).length ≤ 16 := by omega
    exact decide_eq_true e2
  · simp only [PyData.weight]
    split <;> omega
theorem sh_all {N : Nat} : ∀ {xs : List D}, (∀ x ∈ xs, Sh N x) → PyData.showableAll xs = true ∧ PyData.leavesShortAll 16 xs = true ∧ PyData.weightAll xs ≤ xs.length * (N + 1)
  | [], _ => ⟨by simp [PyData.showableAll], by simp [PyData.leavesShortAll], by simp [PyData.weightAll]⟩
  | x :: xs, h => by
    obtain ⟨a, b, c⟩ := sh_all (xs := xs) fun y hy => h y (by simp [hy])
    have hx := h x (by simp)
    refine ⟨by simp [PyData.showableAll, hx.can, a], by simp [PyData.leavesShortAll, hx.small, b], ?_⟩
    have := hx.few
    simp only [PyData.weightAll, List.length_cons, Nat.add_mul]
    omega
theorem sh_list {N n : Nat} {xs : List D} (h : ∀ x ∈ xs, Sh N x) (l : xs.length ≤ n) : Sh (n * (N + 1)) (.list xs) := by
  obtain ⟨a, b, c⟩ := sh_all h
  have := Nat.mul_le_mul_right (N + 1) l
  exact ⟨by simpa [PyData.showable] using a, by simpa [PyData.leavesShort] using b, by simp only [PyData.weight]; omega⟩
theorem sh_tuple {N n : Nat} {xs : List D} (h : ∀ x ∈ xs, Sh N x) (l : xs.length ≤ n) : Sh (n * (N + 1)) (.tuple xs) := by
  obtain ⟨a, b, c⟩ := sh_all h
  have := Nat.mul_le_mul_right (N + 1) l
  exact ⟨by simpa [PyData.showable] using a, by simpa [PyData.leavesShort] using b, by simp only [PyData.weight]; omega⟩
theorem sh_word {m : Int} {w : List Int} (h0 : 0 ≤ m) (h : m ≤ 45) (hw : Word m w) : Sh 495 (tI w) := by
  have l := len_word h0 hw
  refine sh_tuple (N := 10) (n := 45) (fun x hx => ?_) (by simp; omega)
  obtain ⟨i, hi, rfl⟩ := List.mem_map.mp hx
  have := hw.1 i hi
  exact sh_int this.1 (by omega)
theorem sh_words {m : Int} {W : List (List Int)} (h0 : 0 ≤ m) (h : m ≤ 45) (hw : ∀ w ∈ W, Word m w) {n : Nat} (l : W.length ≤ n) : Sh (n * 496) (.list (W.map tI)) := sh_list (N := 495) (fun x hx => by
  obtain ⟨w, h1, rfl⟩ := List.mem_map.mp hx
  exact sh_word h0 h (hw w h1)) (by simpa using l)
theorem sh_four {N : Nat} {a b c d : D} (h1 : Sh N a) (h2 : Sh N b) (h3 : Sh N c) (h4 : Sh N d) : Sh (4 * (N + 1)) (.list [a, b, c, d]) := sh_list (fun x hx => by
  simp at hx
  rcases hx with rfl | rfl | rfl | rfl <;> assumption) (by simp)
theorem sh_two {N : Nat} {a b : D} (h1 : Sh N a) (h2 : Sh N b) : Sh (2 * (N + 1)) (.list [a, b]) := sh_list (fun x hx => by
  simp at hx
  rcases hx with rfl | rfl <;> assumption) (by simp)
theorem okd_list_of {xs : List D} (h : ∀ x ∈ xs, okn 39 x) : okd (.list xs) = true := okd_of (okn_list.mpr h) (by decide)
theorem q_eq_lws {fr : Fr} {Q : M × Fr → Prop} (a b : List (List Int)) : opQ .eq [.list (a.map tI), .list (b.map tI)] fr Q = Q (.d (.bool (decide (a = b))), fr) := by rw [q_eq (okd_ltups a) (okd_ltups b)]; simp
theorem paper_is {m : Int} {ts : List (List Int)} {w : List Int} {x : D} (L : Lot m ts) (h : PaperOk m ts w x) : isPaper m ts w x = true := by
  rcases h with ⟨us, rfl, O⟩ | ⟨e, rfl, O⟩
  · have : isTrips m ts (.tuple (us.map tI)) = true := isTrips_iff.mpr ⟨us, rfl, fun u hu => L.tr u (O.sub u hu), O.ris, O.sub⟩
    simp [isPaper, isSum_tI this, O.sum]
  · simp [isPaper, even_sum, isEven_tI O.word, O.odd]
    exact O.even
theorem sset_ris {us : List (List Int)} (h : Ris us) : sortT (ddp us) = us := risT_ext (ris_sortT (nodup_ddp us)) h fun x => by simp [mem_ddp]
theorem set_ok {m : Int} {us : List (List Int)} (hm : m ≤ 45) (h : ∀ u ∈ us, u.length = 3 ∧ Word m u) (l : us.length < 64) : setOk us = true := by
  unfold setOk
  cases us with
  | nil => simp
  | cons u us =>
    have hu := h u (by simp)
    simp only [Bool.and_eq_true, decide_eq_true_eq, List.all_eq_true]
    refine ⟨l, (fun e => by rw [e] at hu; cases hu.1), fun v hv => ?_⟩
    have hv' := h v hv
    refine ⟨by rw [hv'.1, hu.1], fun a ha => ?_⟩
    have := hv'.2.1 a ha
    simp [bdB]
    omega
section
variable {T : Nat → Option Fn} {glb : Nat → Option D} {fuel : Nat}
def WrI (m : Int) (ts : List (List Int)) (fr0 : Fr) (us : List (List Int)) (r : List D) (fr : Fr) : Prop := ∃ (done rest : List (List Int)) (a : Option M), done ++ rest = us ∧ r = rest.map tI ∧ (a = none ∨ ∃ x, a = some (.d x)) ∧ fr = fr0 ++ [some (.d (tI (sig done))), a]
abbrev S_word_right (T : Nat → Option Fn) (glb : Nat → Option D) (fuel i : Nat) : Prop := ∀ n (m : Int) (ts S : List (List Int)) (w : List Int), Lot m ts → ts.length ≤ 60 → Word m w → (∀ x, x ∈ S ↔ Span ts x) → callN T glb fuel (n + 9) i [.d (lotD m ts), .d (.list (S.map tI)), .d (tI w)] = .ok (.d (.bool true), [none, none, none])
theorem s_word_right {i j1 j2 j3 j4 j5 j6 j7 : Nat} (h : T i = some (g__law_word_right j1 j2 j3 j4 j5 j6 j7)) (h1 : S_law_is_odd T glb fuel j1) (h2 : S_law_is_even T glb fuel j2) (h3 : S_law_sum T glb fuel j3) (h4 : S_is_even_to T glb fuel j4) (h5 : S_is_word_paper T glb fuel j5) (h6 : S_word_paper T glb fuel j6) (h7 : S_is_made T glb fuel j7) : S_word_right T glb fuel i := by
  intro n m ts S w L hts hw hS
  apply of_wp
  rw [w_fn h rfl rfl]
  obtain ⟨x, hx, e6⟩ := h6 n m ts w L hw
  obtain ⟨s, us, ex, hsm⟩ := paper_shape L (by omega) hx
  have hok : Ok x := by rw [ex]; exact (hsm.nice.wide (by decide)).mono (by decide)
  have e5 := h5 n m ts w x L hw hok
  rw [paper_is L hx] at e5
  have e7 := h7 n m ts w S L hw hS
  have e4 := h4 n m ts w L hw
  have e2 := h2 (n + 7) m ts w L
  have hlo := L.lo
  have hhi := L.hi
  have hline : line = 16777216 := rfl
  have r2 : ∀ (b : Bool) fr Q, opQ .repr [.list [.bool b, .bool b]] fr Q = Q (.d (.str (PyData.list [.bool b, .bool b]).shown), fr) := fun b fr Q => q_repr (okd_list_of (by simp)) ((sh_two (N := 0) (by simp) (by simp)).mono (by decide))
  clear ex hsm
  rcases hx with ⟨us, rfl, O⟩ | ⟨e, rfl, O⟩
  · have hin : w ∈ S := (hS w).mpr (by rw [← O.sum]; exact span_sig (lot_ris L) O.sub)
    have hul : us.length ≤ 60 := Nat.le_trans (len_sub (nodup_risT O.ris) O.sub) hts
    have hset := set_ok hhi (fun u hu => L.tr u (O.sub u hu)) (show us.length < 64 by omega)
    simp [hin] at e7
    simp [e6, e7, hin, r2, e5, e2, e4]
    refine for_rule (WrI m ts [some (.d (lotD m ts)), some (.d (.list (S.map tI))), some (.d (tI w)), some (.d (.bool (ts.all fun t => !dot t w))), some (.d (.bool true)), some (.d (.tuple [.str "sum", .tuple (us.map tI)]))] us) ⟨[], us, none, rfl, rfl, .inl rfl, rfl⟩ ?_ ?_
    · rintro x r fr ⟨done, rest, a, hd, hr, ha, rfl⟩
      cases rest with
      | nil => cases hr
      | cons t rest =>
        cases hr
        have htm := L.tr t (O.sub t (by rw [← hd]; simp))
        have a1 := len_word (by omega) (word_sig (n := m) (ts := done) fun t ht => (L.tr t (O.sub t (by rw [← hd]; simp [ht]))).2)
        have a2 := len_word (by omega) htm.2
        simp [h3 (n + 7) (sig done) t (by omega)]
        exact ⟨done ++ [t], rest, some (.d (tI t)), by rw [← hd]; simp, rfl, .inr ⟨_, rfl⟩, by rw [sig_snoc]; rfl⟩
    · rintro fr ⟨done, rest, a, hd, hr, ha, rfl⟩
      cases rest with
      | cons t rest => cases hr
      | nil =>
        rw [List.append_nil] at hd
        subst hd
        have e9 : done.filter (fun u => !decide (u ∈ ts)) = [] := by
          rw [List.filter_eq_nil_iff]
          intro u hu
          simp [O.sub u hu]
        rcases ha with rfl | ⟨y, rfl⟩
        all_goals
          simp [O.sum]
          refine comp_fil (fun u => !decide (u ∈ ts)) tI (by omega) (fun u hu => by by_cases g : u ∈ ts <;> simp [g]) ?_
          rw [e9]
          have l0 : ∀ fr Q, opQ .eq [.list [], .list []] fr Q = Q (.d (.bool true), fr) := fun fr Q => by rw [q_eq_lnil rfl]; rfl
          simp [l0, q_tset hset, sset_ris O.ris, q_eq_lws]
  · have hin : w ∉ S := fun hw' => by
      have := ((hS w).mp hw').dot (lot_ris L) O.even
      rw [O.odd] at this
      cases this
    simp [hin] at e7
    simp [e6, e7, hin, r2, e5, e2, e4]
    have e8 := h2 (n + 7) m ts e L
    have e9 := h1 (n + 7) w e (by have := word_len L hw; omega)
    have e10 : (ts.all fun t => !dot t e) = true := by
      simp only [List.all_eq_true, Bool.not_eq_true']
      exact O.even
    rw [e10] at e8
    rw [O.odd] at e9
    simp [e8, e9]
abbrev S_pickd (T : Nat → Option Fn) (glb : Nat → Option D) (fuel i : Nat) : Prop := ∀ n (p : List D) (xs : List D), Pot p → xs ≠ [] → xs.length < 1000000000 → ∃ p' x, Pot p' ∧ x ∈ xs ∧ callN T glb fuel (n + 2) i [.lst p, .d (.list xs)] = .ok (.d x, [some (.lst p'), none])
theorem s_pickd {i j : Nat} (h : T i = some (g__law_pick j)) (h1 : S_draw T glb fuel j) : S_pickd T glb fuel i := by
  intro n p xs hp hne hl
  have hl0 : 0 < xs.length := List.length_pos_iff.mpr hne
  obtain ⟨p', d, hp', h2, h3, e⟩ := h1 n p xs.length hp (by omega) (by omega)
  have hx : xs[d.toNat]? = some xs[d.toNat] := List.getElem?_eq_getElem (by omega)
  refine ⟨p', xs[d.toNat], hp', List.getElem_mem _, ?_⟩
  apply of_wp
  rw [w_fn h rfl rfl]
  simp [e, q_idx_l h2 hx]
theorem pow_at (j : Nat) (h : j ≤ 9) : ([.int 1, .int 2, .int 4, .int 8, .int 16, .int 32, .int 64, .int 128, .int 256, .int 512] : List D)[j]? = some (.int ((2 ^ j : Nat) : Int)) := by
  have : j = 0 ∨ j = 1 ∨ j = 2 ∨ j = 3 ∨ j = 4 ∨ j = 5 ∨ j = 6 ∨ j = 7 ∨ j = 8 ∨ j = 9 := by omega
  rcases this with rfl | rfl | rfl | rfl | rfl | rfl | rfl | rfl | rfl | rfl <;> rfl
theorem q_repr4 {a b : D} (h1 : okn 39 a) (h2 : okn 39 b) (g1 : Sh 64000 a) (g2 : Sh 64000 b) (fr : Fr) (Q : M × Fr → Prop) : opQ .repr [.list [a, b, a, b]] fr Q = Q (.d (.str (PyData.list [a, b, a, b]).shown), fr) := q_repr (okd_list_of fun x hx => by
  simp at hx
  rcases hx with rfl | rfl | rfl | rfl <;> assumption) ((sh_four g1 g2 g1 g2).mono (by decide))
theorem q_twice (a b : D) (fr : Fr) (Q : M × Fr → Prop) : opQ .mul [.list [a, b], .int 2] fr Q = Q (.lst [a, b, a, b], fr) := by
  rw [q_times (xs := [a, b]) (j := 2) (by decide) (by decide) (show 2 * 2 ≤ line by decide)]
  rfl
def dropC : Nat → CS → CS
  | n + 1, .cons _ r => dropC n r
  | _, c => c
def fano : List (List Int) := [[0, 1, 2], [0, 3, 4], [0, 5, 6], [1, 3, 5], [1, 4, 6], [2, 3, 6], [2, 4, 5]]
theorem lot_fano : Lot 7 fano := ⟨by decide, by decide, by decide, by decide, by decide⟩
theorem Word.wide {m k : Int} {w : List Int} (h : Word m w) (l : m ≤ k) : Word k w := ⟨fun a ha => by have := h.1 a ha; omega, h.2⟩
def TimesI (m1 : Int) (m : Int) (ts S : List (List Int)) (k : Nat) (p : List D) (q : Nat) (fr : Fr) : Prop := ∃ j : Nat, j ≤ k ∧ q = k - j ∧ fr = [some (.lst p), some (.d (.int m1)), some (.d (lotD m ts)), none, none, none, some (.lst (S.map tI)), some (.d (.int j)), none, none]
def AskI (m : Int) (ts S : List (List Int)) (m1 : Int) (x3 x4 x7 x8 x9 : Option M) (r : List D) (fr : Fr) : Prop := ∃ (p : List D) (rest : List (List Int)) (a : Option M), Pot p ∧ r = rest.map tI ∧ (∀ w ∈ rest, Word m w) ∧ fr = [some (.lst p), some (.d (.int m1)), some (.d (lotD m ts)), x3, x4, a, some (.d (.list (S.map tI))), x7, x8, x9]
abbrev S_right71 (T : Nat → Option Fn) (glb : Nat → Option D) (fuel i : Nat) : Prop := ∀ (n : Nat) (p : List D), Pot p → 100000 ≤ fuel → wp (callN T glb fuel (n + 10) i [.lst p]) RightQ
theorem s_right71 {i j1 j2 j3 j4 j5 j6 j7 j8 j9 j10 j11 : Nat} (h : T i = some (k71_g__law_right j1 j2 j3 j4 j5 j6 j7 j8 j9 j10 j11)) (h1 : S_pickd T glb fuel j1) (h2 : S_word_right T glb fuel j2) (h3 : S_word_sum T glb fuel j3) (h4 : S_far_apart T glb fuel j4) (h5 : S_law_sum T glb fuel j5) (h6 : S_word T glb fuel j6) (h7 : S_made_words T glb fuel j7) (h8 : S_rank T glb fuel j8) (h9 : S_law_made T glb fuel j9) (h10 : S_draw T glb fuel j10) (h11 : S_any T glb fuel j11) : S_right71 T glb fuel i := by
  intro n p hp hf
  rw [w_fn h rfl rfl]
  simp
  refine use_draw h10 hp (by decide) (by decide) fun p1 d hp1 hd0 hd => ?_
  simp
  obtain ⟨p2, ts1, hp2, L1, hts1, e⟩ := h11 (n + 6) p1 (3 + d) 7 hp1 (by omega) (by omega) (by decide) (by decide) hf
  simp [e]
  refine use_draw h10 hp2 (by decide) (by decide) fun p3 d3 hp3 hd30 hd3 => ?_
  have main : ∀ (m1 m : Int) (ts : List (List Int)) (p : List D), Pot p → Lot m ts → ts.length ≤ 7 → wp (exS (cx T glb fuel (n + 9) [0]) (dropC 3 (k71_g__law_right j1 j2 j3 j4 j5 j6 j7 j8 j9 j10 j11).body) [some (.lst p), some (.d (.int m1)), some (.d (lotD m ts)), none, none, none, none, none, none, none]) (KFin 1 [0] RightQ) := by
    intro m1 m ts p hp L hts
    have hlo := L.lo
    have hhi := L.hi
    obtain ⟨W, k, mW, hk, hW, e9⟩ := h9 (n + 7) m ts L (by omega)
    have e7 := h7 (n + 2) m ts W k L (by omega) mW
    have e8 := (h8 (n + 2) m ts W k L mW).2
    have hSm : ∀ x, x ∈ sortT W ↔ Span ts x := fun x => by rw [mem_sortT, mW.mem]
    have hSw : ∀ w ∈ sortT W, Word m w := fun w hw => hW w ((mem_sortT _ _).mp hw)
    have hSl : (sortT W).length = 2 ^ k := by rw [(perm_sortT W).length_eq, mW.len]
    have hSn : [] ∈ sortT W := (hSm []).mpr .nil
    generalize sortT W = S at *
    have hpow : 2 ^ k ≤ 2 ^ 7 := Nat.pow_le_pow_right (by decide) (by omega)
    simp only [k71_g__law_right, dropC]
    simp [e9]
    refine whl_rule (TimesI m1 m ts S k p) ?_ (n := k) ⟨0, by omega, rfl, rfl⟩ (by omega)
    · rintro q fr ⟨j, hj, rfl, rfl⟩
      have hx := pow_at j (by omega)
      have ei : ∀ fr Q, opQ .idx [.list [.int 1, .int 2, .int 4, .int 8, .int 16, .int 32, .int 64, .int 128, .int 256, .int 512], .int (j : Int)] fr Q = Q (.d (.int ((2 ^ j : Nat) : Int)), fr) := fun fr Q => q_idx_l (by omega) (by rw [Int.toNat_natCast]; exact hx)
      simp [ei]
      by_cases g : j < k
      · have hlt : ((2 : Int) ^ j) < (S.length : Int) := by
          rw [hSl]
          exact_mod_cast Nat.pow_lt_pow_right (by decide : 1 < 2) g
        rw [if_pos hlt]
        exact ⟨k - (j + 1), by omega, j + 1, by omega, rfl, by simp⟩
      · have hjk : j = k := by omega
        subst hjk
        have hlt : ¬ ((2 : Int) ^ j) < (S.length : Int) := by
          rw [hSl]
          simp
        rw [if_neg hlt]
        have hS8 : S.length ≤ 128 := by omega
        have hsS : Sh 64000 (.list (S.map tI)) := (sh_words (by omega) hhi hSw hS8).mono (by decide)
        have ok1 : okn 39 (.list (S.map tI)) := okn_mono (okn_list.mpr fun x hx => by
          obtain ⟨w, _, rfl⟩ := List.mem_map.mp hx
          exact okn_ints 0 w) (by decide)
        have r1 := q_repr4 ok1 (okn_int 39 (j : Int)) hsS ((sh_int (i := (j : Int)) (by omega) (by omega)).mono (by decide))
        have t1 := q_twice (.list (S.map tI)) (.int (j : Int))
        obtain ⟨p4, w1, hp4, hw1, e61⟩ := h6 (n + 7) p m hp (by omega) hhi
        obtain ⟨p5, w2, hp5, hw2, e62⟩ := h6 (n + 7) p4 m hp4 (by omega) hhi
        have hws := word_sumW hw1 hw2
        have l1 := len_word (by omega) hw1
        have l2 := len_word (by omega) hw2
        have l3 := len_word (by omega) hws
        have e5 := h5 (n + 8) w1 w2 (by omega)
        have e3 := h3 (n + 2) w1 w2 (hw1.wide hhi) (hw2.wide hhi)
        have e4 := h4 (n + 2) w1 w2 (hw1.wide hhi) (hw2.wide hhi)
        have r2 := q_repr4 (okn_mono (okn_ints 0 (sumW w1 w2)) (by decide)) (okn_int 39 ((sumW w1 w2).length : Int)) ((sh_word (by omega) hhi hws).mono (by decide)) ((sh_int (i := ((sumW w1 w2).length : Int)) (by omega) (by omega)).mono (by decide))
        have t2 := q_twice (tI (sumW w1 w2)) (.int ((sumW w1 w2).length : Int))
        simp [e7, e8, r1, t1, e61, e62, e5, e3, e4, r2, t2]
        obtain ⟨p6, x6, hp6, hx6, e1⟩ := h1 (n + 7) p5 (S.map tI) hp5 (fun z => by
          rw [List.map_eq_nil_iff] at z
          rw [z] at hSn
          cases hSn) (by simp; omega)
        obtain ⟨w6, hw6, rfl⟩ := List.mem_map.mp hx6
        simp [e1]
        have nil : Word m [] := ⟨by simp, .nil⟩
        refine for_rule (AskI m ts S m1 (some (.d (tI (sumW w1 w2)))) (some (.lst [tI (sumW w1 w2), .int ((sumW w1 w2).length : Int), tI (sumW w1 w2), .int ((sumW w1 w2).length : Int)])) (some (.d (.int (j : Int)))) (some (.d (tI w1))) (some (.d (tI w2)))) ⟨p6, [w1, w2, sumW w1 w2, w6, []], none, hp6, rfl, fun w hw => ?_, rfl⟩ ?_ ?_
        · simp at hw
          rcases hw with rfl | rfl | rfl | rfl | rfl
          · exact hw1
          · exact hw2
          · exact hws
          · exact hSw _ hw6
          · exact nil
        · rintro x r fr ⟨p, rest, a, hp, hr, hrest, rfl⟩
          cases rest with
          | nil => cases hr
          | cons w rest =>
            cases hr
            simp [h2 n m ts S w L (by omega) (hrest w (by simp)) hSm]
            exact ⟨p, rest, some (.d (tI w)), hp, rfl, fun w hw => hrest w (by simp [hw]), rfl⟩
        · rintro fr ⟨p, rest, a, hp, hr, hrest, rfl⟩
          simp
          exact ⟨p, hp, rfl⟩
  by_cases g : d3 = 0
  · have := main (3 + d) 7 fano p3 hp3 lot_fano (by decide)
    simp only [k71_g__law_right, dropC] at this
    simp [g]
    simp at this
    exact this
  · have := main (3 + d) (3 + d) ts1 p3 hp3 L1 (by omega)
    simp only [k71_g__law_right, dropC] at this
    simp [g]
    simp at this
    exact this
def Law71O (ns : List Int) (r : List D) (fr : Fr) : Prop := ∃ (rest : List Int) (a b c : Option M), r = rest.map .int ∧ (∀ k ∈ rest, 0 ≤ k ∧ k ≤ 1) ∧ fr = [some (.d (.list (ns.map .int))), a, b, c]
def Law71I (ns : List Int) (a : Option M) (r : List D) (fr : Fr) : Prop := ∃ (p : List D) (c : Option M), Pot p ∧ fr = [some (.d (.list (ns.map .int))), a, some (.lst p), c]
abbrev S_law71 (T : Nat → Option Fn) (glb : Nat → Option D) (fuel i : Nat) : Prop := ∀ (n : Nat) (ns : List Int), 100000 ≤ fuel → callN T glb fuel (n + 11) i [.d (.list (ns.map .int))] = .ok (.d (.bool true), [none])
theorem s_law71 {i j1 j2 : Nat} (h : T i = some (k71_g_law j1 j2)) (h1 : S_right71 T glb fuel j1) (h2 : S_pot T glb fuel j2) : S_law71 T glb fuel i := by
  intro n ns hf
  apply of_wp
  rw [w_fn h rfl rfl]
  have sm2 : smallI 2 = true := rfl
  simp
  refine for_rule (Law71O ns) ⟨[0, 1], none, none, none, rfl, by simp, rfl⟩ ?_ ?_
  · rintro x r fr ⟨rest, a, b, c, hr, hrest, rfl⟩
    cases rest with
    | nil => cases hr
    | cons k rest =>
      cases hr
      have hk := hrest k (by simp)
      obtain ⟨p, hp, e⟩ := h2 (n + 9) ns k hk.1 (by omega)
      simp [e, iter_r1' sm2]
      refine for_rule (Law71I ns (some (.d (.int k)))) ⟨p, c, hp, rfl⟩ ?_ ?_
      · rintro y s fr ⟨p, c, hp, rfl⟩
        simp
        refine wp_mono (h1 n p hp hf) fun q hq => ?_
        obtain ⟨p', hp', rfl⟩ := hq
        simp
        exact ⟨p', _, hp', rfl⟩
      · rintro fr ⟨p, c, hp, rfl⟩
        simp
        exact ⟨rest, _, _, _, rfl, fun k hk => hrest k (by simp [hk]), rfl⟩
  · rintro fr ⟨rest, a, b, c, hr, hrest, rfl⟩
    simp
end
end Mn
namespace Mn.K71
open PySem L2 PySem.Spec RZ
open PyProof.Rows hiding St
open Mn
def top (i : Nat) : Stmt := PySem.Challenge.pw_eachtwo_k71_whole_words_made.main.body.getD i (.Pass ⟨0, 0, 0, 0⟩)
def inCls (st : Stmt) (j : Nat) : Stmt := match st with
  | .ClassDef _ _ _ body _ _ _ _ _ _ _ => body.getD j (.Pass ⟨0, 0, 0, 0⟩)
  | _ => .Pass ⟨0, 0, 0, 0⟩
/-- 0: is_integer -/
def f_is_integer : FnS := ⟨⟨("is_integer", none), "is_integer", "is_integer", defArgs (top 7), defBody (top 7), defScope (top 7), [], []⟩, ["value"], ["value"], g_is_integer⟩
/-- 1: is_count -/
def f_is_count : FnS := ⟨⟨("is_count", none), "is_count", "is_count", defArgs (top 8), defBody (top 8), defScope (top 8), [], []⟩, ["value"], ["value"], g_is_count 0⟩
/-- 2: is_below -/
def f_is_below : FnS := ⟨⟨("is_below", none), "is_below", "is_below", defArgs (top 9), defBody (top 9), defScope (top 9), [], []⟩, ["value", "many"], ["value", "many"], g_is_below 1⟩
/-- 3: is_row -/
def f_is_row : FnS := ⟨⟨("is_row", none), "is_row", "is_row", defArgs (top 10), defBody (top 10), defScope (top 10), [], []⟩, ["value", "many"], ["value", "many"], g_is_row⟩
/-- 4: is_rising -/
def f_is_rising : FnS := ⟨⟨("is_rising", none), "is_rising", "is_rising", defArgs (top 11), defBody (top 11), defScope (top 11), [], []⟩, ["items", "near", "far"], ["items"], g_is_rising⟩
/-- 5: want_at_most -/
def f_want_at_most : FnS := ⟨⟨("want_at_most", none), "want_at_most", "want_at_most", defArgs (top 12), defBody (top 12), defScope (top 12), [], []⟩, ["what", "limit", "number"], ["what", "limit", "number"], g_want_at_most⟩
/-- 6: is_number -/
def f_is_number : FnS := ⟨⟨("is_number", none), "is_number", "is_number", defArgs (top 17), defBody (top 17), defScope (top 17), [], []⟩, ["value"], ["value"], g_is_number 1 2 0⟩
/-- 7: is_triple_in -/
def f_is_triple_in : FnS := ⟨⟨("is_triple_in", none), "is_triple_in", "is_triple_in", defArgs (top 18), defBody (top 18), defScope (top 18), [], []⟩, ["many", "value", "thing"], ["many", "value"], g_is_triple_in 4 2 3⟩
/-- 8: is_lot_of -/
def f_is_lot_of : FnS := ⟨⟨("is_lot_of", none), "is_lot_of", "is_lot_of", defArgs (top 19), defBody (top 19), defScope (top 19), [], []⟩, ["value", "triple"], ["value"], g_is_lot_of 4 7 6 0 3⟩
/-- 9: want_lot -/
def f_want_lot : FnS := ⟨⟨("want_lot", none), "want_lot", "want_lot", defArgs (top 20), defBody (top 20), defScope (top 20), [], []⟩, ["value"], ["value"], g_want_lot 8⟩
/-- 10: sum_of -/
def f_sum_of : FnS := ⟨⟨("sum_of", none), "sum_of", "sum_of", defArgs (top 25), defBody (top 25), defScope (top 25), [], []⟩, ["word", "other", "only", "thing"], ["word", "other"], g_sum_of⟩
/-- 11: sum_of_all -/
def f_sum_of_all : FnS := ⟨⟨("sum_of_all", none), "sum_of_all", "sum_of_all", defArgs (top 26), defBody (top 26), defScope (top 26), [], []⟩, ["words", "found", "word"], ["words"], g_sum_of_all 10⟩
/-- 12: is_even_of -/
def f_is_even_of : FnS := ⟨⟨("is_even_of", none), "is_even_of", "is_even_of", defArgs (top 27), defBody (top 27), defScope (top 27), [], []⟩, ["lot", "word", "triple", "thing"], ["lot", "word"], g_is_even_of⟩
/-- 13: Leads.__init__ -/
def f_Leads_init : FnS := ⟨⟨("Leads", some "__init__"), "__init__", "Leads.__init__", defArgs (inCls (top 28) 0), defBody (inCls (top 28) 0), defScope (inCls (top 28) 0), [], []⟩, ["self", "lot", "triple", "rest", "some"], ["self", "lot"], g_Leads_init 0 10 0 14⟩
/-- 14: Leads.rest_of -/
def f_Leads_rest_of : FnS := ⟨⟨("Leads", some "rest_of"), "rest_of", "Leads.rest_of", defArgs (inCls (top 28) 1), defBody (inCls (top 28) 1), defScope (inCls (top 28) 1), [], []⟩, ["self", "word", "some", "at", "row", "triples"], ["self", "word"], g_Leads_rest_of 0 10⟩
/-- 15: Leads.rank -/
def f_Leads_rank : FnS := ⟨⟨("Leads", some "rank"), "rank", "Leads.rank", defArgs (inCls (top 28) 2), defBody (inCls (top 28) 2), defScope (inCls (top 28) 2), [], []⟩, ["self"], ["self"], g_Leads_rank 0⟩
/-- 16: Leads.led -/
def f_Leads_led : FnS := ⟨⟨("Leads", some "led"), "led", "Leads.led", defArgs (inCls (top 28) 3), defBody (inCls (top 28) 3), defScope (inCls (top 28) 3), [], []⟩, ["self"], ["self"], g_Leads_led 0⟩
/-- 17: Leads.rows -/
def f_Leads_rows : FnS := ⟨⟨("Leads", some "rows"), "rows", "Leads.rows", defArgs (inCls (top 28) 4), defBody (inCls (top 28) 4), defScope (inCls (top 28) 4), [], []⟩, ["self", "thing"], ["self"], g_Leads_rows 0 16 0⟩
/-- 18: Leads.even_with -/
def f_Leads_even_with : FnS := ⟨⟨("Leads", some "even_with"), "even_with", "Leads.even_with", defArgs (inCls (top 28) 5), defBody (inCls (top 28) 5), defScope (inCls (top 28) 5), [], []⟩, ["self", "thing", "found", "lead", "row", "one"], ["self", "thing"], g_Leads_even_with 0 16 0⟩
/-- 19: paper_of -/
def f_paper_of : FnS := ⟨⟨("paper_of", none), "paper_of", "paper_of", defArgs (top 29), defBody (top 29), defScope (top 29), [], []⟩, ["lot", "word", "leads", "rest", "triples"], ["lot", "word"], g_paper_of 3 4 0 18 14 13⟩
/-- 20: are_triples_in -/
def f_are_triples_in : FnS := ⟨⟨("are_triples_in", none), "are_triples_in", "are_triples_in", defArgs (top 30), defBody (top 30), defScope (top 30), [], []⟩, ["lot", "value", "triple"], ["lot", "value"], g_are_triples_in 4 7⟩
/-- 21: is_paper_of -/
def f_is_paper_of : FnS := ⟨⟨("is_paper_of", none), "is_paper_of", "is_paper_of", defArgs (top 31), defBody (top 31), defScope (top 31), [], []⟩, ["lot", "word", "value", "thing"], ["lot", "word", "value"], g_is_paper_of 12 22 4 3 11 20 3⟩
/-- 22: is_word_of -/
def f_is_word_of : FnS := ⟨⟨("is_word_of", none), "is_word_of", "is_word_of", defArgs (top 32), defBody (top 32), defScope (top 32), [], []⟩, ["many", "value", "thing"], ["many", "value"], g_is_word_of 4 2⟩
/-- 23: want_word -/
def f_want_word : FnS := ⟨⟨("want_word", none), "want_word", "want_word", defArgs (top 33), defBody (top 33), defScope (top 33), [], []⟩, ["many", "value"], ["many", "value"], g_want_word 22⟩
/-- 24: want_two_words -/
def f_want_two_words : FnS := ⟨⟨("want_two_words", none), "want_two_words", "want_two_words", defArgs (top 34), defBody (top 34), defScope (top 34), [], []⟩, ["word", "other_word"], ["word", "other_word"], g_want_two_words 23 2⟩
/-- 25: want_told -/
def f_want_told : FnS := ⟨⟨("want_told", none), "want_told", "want_told", defArgs (top 35), defBody (top 35), defScope (top 35), [], []⟩, ["lot", "word"], ["lot", "word"], g_want_told 23 9⟩
/-- 26: word_sum -/
def f_word_sum : FnS := ⟨⟨("word_sum", none), "word_sum", "word_sum", defArgs (top 36), defBody (top 36), defScope (top 36), [], []⟩, ["word", "other_word"], ["word", "other_word"], g_word_sum 10 24⟩
/-- 27: far_apart -/
def f_far_apart : FnS := ⟨⟨("far_apart", none), "far_apart", "far_apart", defArgs (top 37), defBody (top 37), defScope (top 37), [], []⟩, ["word", "other_word"], ["word", "other_word"], g_far_apart 10 24⟩
/-- 28: is_made -/
def f_is_made : FnS := ⟨⟨("is_made", none), "is_made", "is_made", defArgs (top 38), defBody (top 38), defScope (top 38), [], []⟩, ["lot", "word"], ["lot", "word"], g_is_made 0 14 13 25⟩
/-- 29: is_even_to -/
def f_is_even_to : FnS := ⟨⟨("is_even_to", none), "is_even_to", "is_even_to", defArgs (top 39), defBody (top 39), defScope (top 39), [], []⟩, ["lot", "word"], ["lot", "word"], g_is_even_to 12 25⟩
/-- 30: rank -/
def f_rank : FnS := ⟨⟨("rank", none), "rank", "rank", defArgs (top 40), defBody (top 40), defScope (top 40), [], []⟩, ["lot"], ["lot"], g_rank 0 15 13 9⟩
/-- 31: made_words -/
def f_made_words : FnS := ⟨⟨("made_words", none), "made_words", "made_words", defArgs (top 41), defBody (top 41), defScope (top 41), [], []⟩, ["lot", "row", "leads", "found", "word"], ["lot"], g_made_words 0 17 10 5 5 13 9⟩
/-- 32: word_paper -/
def f_word_paper : FnS := ⟨⟨("word_paper", none), "word_paper", "word_paper", defArgs (top 42), defBody (top 42), defScope (top 42), [], []⟩, ["lot", "word"], ["lot", "word"], g_word_paper 19 25⟩
/-- 33: is_word_paper -/
def f_is_word_paper : FnS := ⟨⟨("is_word_paper", none), "is_word_paper", "is_word_paper", defArgs (top 43), defBody (top 43), defScope (top 43), [], []⟩, ["lot", "word", "value"], ["lot", "word", "value"], g_is_word_paper 21 25⟩
/-- 34: _law_pot -/
def f__law_pot : FnS := ⟨⟨("_law_pot", none), "_law_pot", "_law_pot", defArgs (top 45), defBody (top 45), defScope (top 45), [], []⟩, ["script", "k", "cell"], ["script", "k"], g__law_pot⟩
/-- 35: _law_draw -/
def f__law_draw : FnS := ⟨⟨("_law_draw", none), "_law_draw", "_law_draw", defArgs (top 46), defBody (top 46), defScope (top 46), [], []⟩, ["pot", "many", "digit"], ["pot", "many"], g__law_draw⟩
/-- 36: _law_pick -/
def f__law_pick : FnS := ⟨⟨("_law_pick", none), "_law_pick", "_law_pick", defArgs (top 47), defBody (top 47), defScope (top 47), [], []⟩, ["pot", "some"], ["pot", "some"], g__law_pick 35⟩
/-- 37: _law_all_pairs -/
def f__law_all_pairs : FnS := ⟨⟨("_law_all_pairs", none), "_law_all_pairs", "_law_all_pairs", defArgs (top 48), defBody (top 48), defScope (top 48), [], []⟩, ["many", "found", "one", "other"], ["many"], g__law_all_pairs⟩
/-- 38: _law_all_triples -/
def f__law_all_triples : FnS := ⟨⟨("_law_all_triples", none), "_law_all_triples", "_law_all_triples", defArgs (top 49), defBody (top 49), defScope (top 49), [], []⟩, ["many", "found", "one", "other", "third"], ["many"], g__law_all_triples 37⟩
/-- 39: _law_shuffled -/
def f__law_shuffled : FnS := ⟨⟨("_law_shuffled", none), "_law_shuffled", "_law_shuffled", defArgs (top 50), defBody (top 50), defScope (top 50), [], []⟩, ["pot", "some", "left", "found"], ["pot", "some"], g__law_shuffled 35⟩
/-- 40: _law_any -/
def f__law_any : FnS := ⟨⟨("_law_any", none), "_law_any", "_law_any", defArgs (top 51), defBody (top 51), defScope (top 51), [], []⟩, ["pot", "many", "most"], ["pot", "many", "most"], g__law_any 39 38 35⟩
/-- 41: _law_sum -/
def f__law_sum : FnS := ⟨⟨("_law_sum", none), "_law_sum", "_law_sum", defArgs (top 52), defBody (top 52), defScope (top 52), [], []⟩, ["one", "other", "thing"], ["one", "other"], g__law_sum⟩
/-- 42: _law_made -/
def f__law_made : FnS := ⟨⟨("_law_made", none), "_law_made", "_law_made", defArgs (top 53), defBody (top 53), defScope (top 53), [], []⟩, ["lot", "found", "triple", "word"], ["lot"], g__law_made 41⟩
/-- 43: _law_word -/
def f__law_word : FnS := ⟨⟨("_law_word", none), "_law_word", "_law_word", defArgs (top 54), defBody (top 54), defScope (top 54), [], []⟩, ["pot", "many", "thing"], ["pot", "many"], g__law_word 35⟩
/-- 44: _law_is_even -/
def f__law_is_even : FnS := ⟨⟨("_law_is_even", none), "_law_is_even", "_law_is_even", defArgs (top 55), defBody (top 55), defScope (top 55), [], []⟩, ["lot", "word", "triple", "thing"], ["lot", "word"], g__law_is_even⟩
/-- 45: _law_is_odd -/
def f__law_is_odd : FnS := ⟨⟨("_law_is_odd", none), "_law_is_odd", "_law_is_odd", defArgs (top 56), defBody (top 56), defScope (top 56), [], []⟩, ["one", "other", "many", "thing"], ["one", "other"], g__law_is_odd⟩
/-- 46: _law_word_right -/
def f__law_word_right : FnS := ⟨⟨("_law_word_right", none), "_law_word_right", "_law_word_right", defArgs (top 57), defBody (top 57), defScope (top 57), [], []⟩, ["lot", "made", "word", "even", "due", "paper", "total", "triple"], ["lot", "made", "word"], g__law_word_right 45 44 41 29 33 32 28⟩
/-- 47: _law_right -/
def f__law_right : FnS := ⟨⟨("_law_right", none), "_law_right", "_law_right", defArgs (top 58), defBody (top 58), defScope (top 58), [], []⟩, ["pot", "many", "lot", "both", "told", "word", "made", "times", "one", "other"], ["pot"], k71_g__law_right 36 46 26 27 41 43 31 30 42 35 40⟩
/-- 48: law -/
def f_law : FnS := ⟨⟨("law", none), "law", "law", defArgs (top 59), defBody (top 59), defScope (top 59), [], []⟩, ["script", "k", "pot", "turn"], ["script"], k71_g_law 47 34⟩
def txt : Text := ⟨[("LOT", (.str "lot")), ("LEAST_THINGS", (.int 3)), ("MOST_THINGS", (.int 45)), ("SUM", (.str "sum")), ("EVEN", (.str "even")), ("MOST_WORDS", (.int 4096))], [f_is_integer, f_is_count, f_is_below, f_is_row, f_is_rising, f_want_at_most, f_is_number, f_is_triple_in, f_is_lot_of, f_want_lot, f_sum_of, f_sum_of_all, f_is_even_of, f_Leads_init, f_Leads_rest_of, f_Leads_rank, f_Leads_led, f_Leads_rows, f_Leads_even_with, f_paper_of, f_are_triples_in, f_is_paper_of, f_is_word_of, f_want_word, f_want_two_words, f_want_told, f_word_sum, f_far_apart, f_is_made, f_is_even_to, f_rank, f_made_words, f_word_paper, f_is_word_paper, f__law_pot, f__law_draw, f__law_pick, f__law_all_pairs, f__law_all_triples, f__law_shuffled, f__law_any, f__law_sum, f__law_made, f__law_word, f__law_is_even, f__law_is_odd, f__law_word_right, f__law_right, f_law], ["Leads"], ["own_rows"], [(29, ["word", "lot"], [1, 0]), (33, ["value", "word", "lot"], [2, 1, 0]), (32, ["word", "lot"], [1, 0]), (28, ["word", "lot"], [1, 0]), (26, ["other_word", "word"], [1, 0]), (27, ["other_word", "word"], [1, 0]), (31, ["lot"], [0]), (30, ["lot"], [0])]⟩
theorem k_is_integer : BindOk f_is_integer := fun _ _ _ _ _ _ us hl => match us, hl with | [_], _ => rfl
theorem k_is_count : BindOk f_is_count := fun _ _ _ _ _ _ us hl => match us, hl with | [_], _ => rfl
theorem k_is_below : BindOk f_is_below := fun _ _ _ _ _ _ us hl => match us, hl with | [_, _], _ => rfl
theorem k_is_row : BindOk f_is_row := fun _ _ _ _ _ _ us hl => match us, hl with | [_, _], _ => rfl
theorem k_is_rising : BindOk f_is_rising := fun _ _ _ _ _ _ us hl => match us, hl with | [_], _ => rfl
theorem k_want_at_most : BindOk f_want_at_most := fun _ _ _ _ _ _ us hl => match us, hl with | [_, _, _], _ => rfl
theorem k_is_number : BindOk f_is_number := fun _ _ _ _ _ _ us hl => match us, hl with | [_], _ => rfl
theorem k_is_triple_in : BindOk f_is_triple_in := fun _ _ _ _ _ _ us hl => match us, hl with | [_, _], _ => rfl
theorem k_is_lot_of : BindOk f_is_lot_of := fun _ _ _ _ _ _ us hl => match us, hl with | [_], _ => rfl
theorem k_want_lot : BindOk f_want_lot := fun _ _ _ _ _ _ us hl => match us, hl with | [_], _ => rfl
theorem k_sum_of : BindOk f_sum_of := fun _ _ _ _ _ _ us hl => match us, hl with | [_, _], _ => rfl
theorem k_sum_of_all : BindOk f_sum_of_all := fun _ _ _ _ _ _ us hl => match us, hl with | [_], _ => rfl
theorem k_is_even_of : BindOk f_is_even_of := fun _ _ _ _ _ _ us hl => match us, hl with | [_, _], _ => rfl
theorem k_Leads_init : BindOk f_Leads_init := fun _ _ _ _ _ _ us hl => match us, hl with | [_, _], _ => rfl
theorem k_Leads_rest_of : BindOk f_Leads_rest_of := fun _ _ _ _ _ _ us hl => match us, hl with | [_, _], _ => rfl
theorem k_Leads_rank : BindOk f_Leads_rank := fun _ _ _ _ _ _ us hl => match us, hl with | [_], _ => rfl
theorem k_Leads_led : BindOk f_Leads_led := fun _ _ _ _ _ _ us hl => match us, hl with | [_], _ => rfl
theorem k_Leads_rows : BindOk f_Leads_rows := fun _ _ _ _ _ _ us hl => match us, hl with | [_], _ => rfl
theorem k_Leads_even_with : BindOk f_Leads_even_with := fun _ _ _ _ _ _ us hl => match us, hl with | [_, _], _ => rfl
theorem k_paper_of : BindOk f_paper_of := fun _ _ _ _ _ _ us hl => match us, hl with | [_, _], _ => rfl
theorem k_are_triples_in : BindOk f_are_triples_in := fun _ _ _ _ _ _ us hl => match us, hl with | [_, _], _ => rfl
theorem k_is_paper_of : BindOk f_is_paper_of := fun _ _ _ _ _ _ us hl => match us, hl with | [_, _, _], _ => rfl
theorem k_is_word_of : BindOk f_is_word_of := fun _ _ _ _ _ _ us hl => match us, hl with | [_, _], _ => rfl
theorem k_want_word : BindOk f_want_word := fun _ _ _ _ _ _ us hl => match us, hl with | [_, _], _ => rfl
theorem k_want_two_words : BindOk f_want_two_words := fun _ _ _ _ _ _ us hl => match us, hl with | [_, _], _ => rfl
theorem k_want_told : BindOk f_want_told := fun _ _ _ _ _ _ us hl => match us, hl with | [_, _], _ => rfl
theorem k_word_sum : BindOk f_word_sum := fun _ _ _ _ _ _ us hl => match us, hl with | [_, _], _ => rfl
theorem k_far_apart : BindOk f_far_apart := fun _ _ _ _ _ _ us hl => match us, hl with | [_, _], _ => rfl
theorem k_is_made : BindOk f_is_made := fun _ _ _ _ _ _ us hl => match us, hl with | [_, _], _ => rfl
theorem k_is_even_to : BindOk f_is_even_to := fun _ _ _ _ _ _ us hl => match us, hl with | [_, _], _ => rfl
theorem k_rank : BindOk f_rank := fun _ _ _ _ _ _ us hl => match us, hl with | [_], _ => rfl
theorem k_made_words : BindOk f_made_words := fun _ _ _ _ _ _ us hl => match us, hl with | [_], _ => rfl
theorem k_word_paper : BindOk f_word_paper := fun _ _ _ _ _ _ us hl => match us, hl with | [_, _], _ => rfl
theorem k_is_word_paper : BindOk f_is_word_paper := fun _ _ _ _ _ _ us hl => match us, hl with | [_, _, _], _ => rfl
theorem k__law_pot : BindOk f__law_pot := fun _ _ _ _ _ _ us hl => match us, hl with | [_, _], _ => rfl
theorem k__law_draw : BindOk f__law_draw := fun _ _ _ _ _ _ us hl => match us, hl with | [_, _], _ => rfl
theorem k__law_pick : BindOk f__law_pick := fun _ _ _ _ _ _ us hl => match us, hl with | [_, _], _ => rfl
theorem k__law_all_pairs : BindOk f__law_all_pairs := fun _ _ _ _ _ _ us hl => match us, hl with | [_], _ => rfl
theorem k__law_all_triples : BindOk f__law_all_triples := fun _ _ _ _ _ _ us hl => match us, hl with | [_], _ => rfl
theorem k__law_shuffled : BindOk f__law_shuffled := fun _ _ _ _ _ _ us hl => match us, hl with | [_, _], _ => rfl
theorem k__law_any : BindOk f__law_any := fun _ _ _ _ _ _ us hl => match us, hl with | [_, _, _], _ => rfl
theorem k__law_sum : BindOk f__law_sum := fun _ _ _ _ _ _ us hl => match us, hl with | [_, _], _ => rfl
theorem k__law_made : BindOk f__law_made := fun _ _ _ _ _ _ us hl => match us, hl with | [_], _ => rfl
theorem k__law_word : BindOk f__law_word := fun _ _ _ _ _ _ us hl => match us, hl with | [_, _], _ => rfl
theorem k__law_is_even : BindOk f__law_is_even := fun _ _ _ _ _ _ us hl => match us, hl with | [_, _], _ => rfl
theorem k__law_is_odd : BindOk f__law_is_odd := fun _ _ _ _ _ _ us hl => match us, hl with | [_, _], _ => rfl
theorem k__law_word_right : BindOk f__law_word_right := fun _ _ _ _ _ _ us hl => match us, hl with | [_, _, _], _ => rfl
theorem k__law_right : BindOk f__law_right := fun _ _ _ _ _ _ us hl => match us, hl with | [_], _ => rfl
theorem k_law : BindOk f_law := fun _ _ _ _ _ _ us hl => match us, hl with | [_], _ => rfl
theorem binds : ∀ s ∈ txt.fns, BindOk s := by
  intro s hs
  simp only [txt, List.mem_cons, List.not_mem_nil, or_false] at hs
  rcases hs with rfl | rfl | rfl | rfl | rfl | rfl | rfl | rfl | rfl | rfl | rfl | rfl | rfl | rfl | rfl | rfl | rfl | rfl | rfl | rfl | rfl | rfl | rfl | rfl | rfl | rfl | rfl | rfl | rfl | rfl | rfl | rfl | rfl | rfl | rfl | rfl | rfl | rfl | rfl | rfl | rfl | rfl | rfl | rfl | rfl | rfl | rfl | rfl | rfl
  · exact k_is_integer
  · exact k_is_count
  · exact k_is_below
  · exact k_is_row
  · exact k_is_rising
  · exact k_want_at_most
  · exact k_is_number
  · exact k_is_triple_in
  · exact k_is_lot_of
  · exact k_want_lot
  · exact k_sum_of
  · exact k_sum_of_all
  · exact k_is_even_of
  · exact k_Leads_init
  · exact k_Leads_rest_of
  · exact k_Leads_rank
  · exact k_Leads_led
  · exact k_Leads_rows
  · exact k_Leads_even_with
  · exact k_paper_of
  · exact k_are_triples_in
  · exact k_is_paper_of
  · exact k_is_word_of
  · exact k_want_word
  · exact k_want_two_words
  · exact k_want_told
  · exact k_word_sum
  · exact k_far_apart
  · exact k_is_made
  · exact k_is_even_to
  · exact k_rank
  · exact k_made_words
  · exact k_word_paper
  · exact k_is_word_paper
  · exact k__law_pot
  · exact k__law_draw
  · exact k__law_pick
  · exact k__law_all_pairs
  · exact k__law_all_triples
  · exact k__law_shuffled
  · exact k__law_any
  · exact k__law_sum
  · exact k__law_made
  · exact k__law_word
  · exact k__law_is_even
  · exact k__law_is_odd
  · exact k__law_word_right
  · exact k__law_right
  · exact k_law
theorem kw_0 : BindKOk f_is_even_to ["word", "lot"] [1, 0] := fun _ _ _ _ _ _ ws us hl hu => match ws, hl with | [_, _], _ => by cases hu; rfl
theorem kw_1 : BindKOk f_is_word_paper ["value", "word", "lot"] [2, 1, 0] := fun _ _ _ _ _ _ ws us hl hu => match ws, hl with | [_, _, _], _ => by cases hu; rfl
theorem kw_2 : BindKOk f_word_paper ["word", "lot"] [1, 0] := fun _ _ _ _ _ _ ws us hl hu => match ws, hl with | [_, _], _ => by cases hu; rfl
theorem kw_3 : BindKOk f_is_made ["word", "lot"] [1, 0] := fun _ _ _ _ _ _ ws us hl hu => match ws, hl with | [_, _], _ => by cases hu; rfl
theorem kw_4 : BindKOk f_word_sum ["other_word", "word"] [1, 0] := fun _ _ _ _ _ _ ws us hl hu => match ws, hl with | [_, _], _ => by cases hu; rfl
theorem kw_5 : BindKOk f_far_apart ["other_word", "word"] [1, 0] := fun _ _ _ _ _ _ ws us hl hu => match ws, hl with | [_, _], _ => by cases hu; rfl
theorem kw_6 : BindKOk f_made_words ["lot"] [0] := fun _ _ _ _ _ _ ws us hl hu => match ws, hl with | [_], _ => by cases hu; rfl
theorem kw_7 : BindKOk f_rank ["lot"] [0] := fun _ _ _ _ _ _ ws us hl hu => match ws, hl with | [_], _ => by cases hu; rfl
theorem kbinds : ∀ q ∈ txt.kws, ∀ s, txt.fns[q.1]? = some s → BindKOk s q.2.1 q.2.2 := by
  intro q hq s hs
  simp only [txt, List.mem_cons, List.not_mem_nil, or_false] at hq
  rcases hq with rfl | rfl | rfl | rfl | rfl | rfl | rfl | rfl
  · cases hs; exact kw_0
  · cases hs; exact kw_1
  · cases hs; exact kw_2
  · cases hs; exact kw_3
  · cases hs; exact kw_4
  · cases hs; exact kw_5
  · cases hs; exact kw_6
  · cases hs; exact kw_7
theorem ok : txt.okB = true := by decide +kernel
end Mn.K71
set_option maxHeartbeats 0
namespace Mn.K71
open PySem L2 PySem.Spec RZ
open PyProof.Rows hiding St
open Mn
theorem law_at (ns : List Int) : ∃ out, callN txt.T txt.glb 100000 11 48 [.d (.list (ns.map PyData.int))] = .ok (.d (.bool true), out) := by
  have h35 : S_draw txt.T txt.glb 100000 35 := s_draw rfl 
  have h36 : S_pickd txt.T txt.glb 100000 36 := s_pickd rfl h35
  have h45 : S_law_is_odd txt.T txt.glb 100000 45 := s_law_is_odd rfl 
  have h44 : S_law_is_even txt.T txt.glb 100000 44 := s_law_is_even rfl 
  have h41 : S_law_sum txt.T txt.glb 100000 41 := s_law_sum rfl 
  have h12 : S_is_even_of txt.T txt.glb 100000 12 := s_is_even_of rfl 
  have h4 : S_is_rising txt.T txt.glb 100000 4 := s_is_rising rfl 
  have h0 : S_is_integer txt.T txt.glb 100000 0 := s_is_integer rfl 
  have h1 : S_is_count txt.T txt.glb 100000 1 := s_is_count rfl h0
  have h2 : S_is_below txt.T txt.glb 100000 2 := s_is_below rfl h1
  have h22 : S_is_word_of txt.T txt.glb 100000 22 := s_is_word_of rfl h4 h2
  have h23 : S_want_word txt.T txt.glb 100000 23 := s_want_word rfl h22
  have h3 : S_is_row txt.T txt.glb 100000 3 := s_is_row rfl 
  have h7 : S_is_triple_in txt.T txt.glb 100000 7 := s_is_triple_in rfl h4 h2 h3
  have h6 : S_is_number txt.T txt.glb 100000 6 := s_is_number rfl h0 rfl rfl
  have h8 : S_is_lot_of txt.T txt.glb 100000 8 := s_is_lot_of rfl h4 h7 h6 h3 rfl
  have h9 : S_want_lot txt.T txt.glb 100000 9 := s_want_lot rfl h8
  have h25 : S_want_told txt.T txt.glb 100000 25 := s_want_told rfl h23 h9
  have h29 : S_is_even_to txt.T txt.glb 100000 29 := s_is_even_to rfl h12 h25
  have h10 : S_sum_of txt.T txt.glb 100000 10 := s_sum_of rfl 
  have h11 : S_sum_of_all txt.T txt.glb 100000 11 := s_sum_of_all rfl h10
  have h20 : S_are_triples_in txt.T txt.glb 100000 20 := s_are_triples_in rfl h4 h7
  have h21 : S_is_paper_of txt.T txt.glb 100000 21 := s_is_paper_of rfl h12 h22 h11 h20 h3 rfl rfl
  have h33 : S_is_word_paper txt.T txt.glb 100000 33 := s_is_word_paper rfl h21 h25
  have h16 : S_led txt.T txt.glb 100000 0 0 16 := s_led rfl 
  have h18 : S_even_with txt.T txt.glb 100000 0 0 18 := s_even_with rfl h16
  have h14 : S_rest_of txt.T txt.glb 100000 0 0 14 := s_rest_of rfl h10 (by decide)
  have h13 : S_init txt.T txt.glb 100000 0 0 13 := s_init rfl h10 h14
  have h19 : S_paper_of txt.T txt.glb 100000 19 := s_paper_of rfl h18 h14 h13 rfl rfl
  have h32 : S_word_paper txt.T txt.glb 100000 32 := s_word_paper rfl h19 h25
  have h28 : S_is_made txt.T txt.glb 100000 28 := s_is_made rfl h14 h13 h25
  have h46 : S_word_right txt.T txt.glb 100000 46 := s_word_right rfl h45 h44 h41 h29 h33 h32 h28
  have h24 : S_want_two txt.T txt.glb 100000 24 := s_want_two rfl h23 rfl
  have h26 : S_word_sum txt.T txt.glb 100000 26 := s_word_sum rfl h10 h24
  have h27 : S_far_apart txt.T txt.glb 100000 27 := s_far_apart rfl h10 h24
  have h43 : S_word txt.T txt.glb 100000 43 := s_word rfl h35
  have h17 : S_Leads_rows txt.T txt.glb 100000 0 0 17 := s_Leads_rows rfl h16
  have h5 : S_want_at_most txt.T txt.glb 100000 5 := s_want_at_most rfl 
  have h31 : S_made_words txt.T txt.glb 100000 31 := s_made_words rfl h17 h10 h5 h13 h9 rfl
  have h15 : S_Leads_rank txt.T txt.glb 100000 0 0 15 := s_Leads_rank rfl 
  have h30 : S_rank txt.T txt.glb 100000 30 := s_rank rfl h15 h13 h9
  have h42 : S_law_made txt.T txt.glb 100000 42 := s_law_made rfl h41
  have h39 : S_shuffled txt.T txt.glb 100000 39 := s_shuffled rfl h35
  have h37 : S_all_pairs txt.T txt.glb 100000 37 := s_all_pairs rfl 
  have h38 : S_all_triples txt.T txt.glb 100000 38 := s_all_triples rfl h37
  have h40 : S_any txt.T txt.glb 100000 40 := s_any rfl h39 h38 h35
  have h47 : S_right71 txt.T txt.glb 100000 47 := s_right71 rfl h36 h46 h26 h27 h41 h43 h31 h30 h42 h35 h40
  have h34 : S_pot txt.T txt.glb 100000 34 := s_pot rfl 
  exact ⟨_, s_law71 rfl h47 h34 0 ns (by decide)⟩
abbrev R : PySem.W.OpenRow := PySem.W.OpenLaw.row PySem.Challenge.rw_eachtwo_k71_whole_words_made
abbrev dn : List He.DefD := txt.fns.map (·.d)
abbrev hk : PySem.W.Hook := He.hookD 6 txt.facts dn
def ob (s : PySem.W.SharedT) : He.AlD := He.obsDG 6 txt.facts dn (HandSHeadRun.getT s)
theorem ob_eq (s : PySem.W.SharedT) : ob s = hk.obs s.abs := He.obsDG_eq (HandSHeadRun.getT_eq s)
def names : List PySem.Str := (["TripleError", "LimitError", "InvalidLot", "InvalidWord", "TooMany", "is_integer", "is_count", "is_below", "is_row", "is_rising", "want_at_most", "LOT", "LEAST_THINGS", "MOST_THINGS", "is_number", "is_triple_in", "is_lot_of", "want_lot", "SUM", "EVEN", "MOST_WORDS", "sum_of", "sum_of_all", "is_even_of", "Leads"] : List PySem.Str) ++ (["paper_of", "are_triples_in", "is_paper_of", "is_word_of", "want_word", "want_two_words", "want_told", "word_sum", "far_apart", "is_made", "is_even_to", "rank", "made_words", "word_paper", "is_word_paper", "_law_pot", "_law_draw", "_law_pick", "_law_all_pairs", "_law_all_triples", "_law_shuffled", "_law_any", "_law_sum", "_law_made", "_law_word"] : List PySem.Str) ++ (["_law_is_even", "_law_is_odd", "_law_word_right", "_law_right"] : List PySem.Str)
theorem run (w : World) : HandSHeadRun.RunEq R (PySem.W.view R.prog [59]) hk ob 4000 names w := by
  intro os
  kernel_rfl
end Mn.K71
open PySem PySem.W PySem.Calls PyProof.Rows
theorem PySem.Challenge.cw_eachtwo_k71_whole_words_made_holds : PySem.Challenge.rw_eachtwo_k71_whole_words_made.Holds := by
  w_on; o_law
  refine HandSHeadRun.head_any (r := OpenLaw.row PySem.Challenge.rw_eachtwo_k71_whole_words_made) (q := view (OpenLaw.row PySem.Challenge.rw_eachtwo_k71_whole_words_made).prog [59]) (H := Mn.K71.hk) (ob := Mn.K71.ob) (M := 4000) (loose := Mn.K71.names) (d := HandSHeadRun.topDef (OpenLaw.row PySem.Challenge.rw_eachtwo_k71_whole_words_made).prog 59) (kwd := []) Mn.K71.ob_eq
    (by kernel_rfl) (fun s => by kernel_rfl) Mn.K71.run (by kernel_rfl) (by kernel_rfl) (by kernel_rfl) (by rfl) (by first | assumption | decide +kernel) (by decide +kernel) ⟨rfl, rfl, rfl, rfl, rfl, by decide +kernel⟩ ?hw ?hc
  case hw => w_witness2
  case hc =>
    exact Mn.law_end (x := Mn.K71.txt) (n := 63) (fuel := 100000) (lv := 11) (f0 := 48) (s0 := Mn.K71.f_law) (xn := "script") rfl (by decide) (by kernel_rfl) ⟨rfl, by decide, by decide⟩ Mn.K71.ok Mn.K71.binds Mn.K71.kbinds rfl (by kernel_rfl) rfl fun ns _ => Mn.K71.law_at ns
