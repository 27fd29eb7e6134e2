import PyProof.Rows.All
import Wide.All
import OpenK.AllK
import Wide.FinOn
import HandS.ForMost
import HandS.Walk
import HandS.Flow
import HandS.TupAny
import HandS.TupMul
import HandS.Wide
import HandS.Conv
import HandS.IsInst
import HandS.HeadEnd
import HandS.HeadHook2
import HandS.Head2
import HandS.Style
import HandS.RaiseMore
import HandS.WordsDict
import HandS.SetFor
import HandS.Deep
import HandS.NoneIn
import HandS.SortRule
import HandS.SortInts
import HandS.More
import KE.KSortTupAny
import KE.GoesEnum
import KE.GoesMore
import HandS.Iter
import HandS.Zip
import HandS.DictComp
import PyProof.StrLawsRepr
import PyProof.ReprLoop
import PyProof.FitsInt
import KE.KStateDown
import Lean
import HandS.Base
import HandS.Call
import HandS.Ends
import HandS.Head0
import HandS.Head1
import HandS.HeadHook1
import PySem.Challenge.RW_persisthall_k56_whole_ways_together
section
/-! MnCore: a small language with its evaluator: values, a store, expressions, statements. -/
set_option autoImplicit false
namespace Mn
abbrev Sg := List Nat

/-- a key of a dict -/
inductive Ky where | i (n : Int) | s (x : Sg)
  deriving DecidableEq
/-- a value: `ref n` is the n-th thing of the store -/
inductive PV where
  | non | bl (b : Bool) | int (i : Int) | str (x : Sg)
  | tup (xs : List PV) | lst (xs : List PV) | ref (n : Nat) | fn (f : Nat) | dct (ks : List Ky) (vs : List PV)
  deriving Inhabited

inductive MO where
  | lst (xs : List PV) | dct (ks : List Ky) (vs : List PV) | dead
abbrev Sto := List MO

inductive Slot where
  | no | val (p : PV) | hold (m : MO)
abbrev Env := List Slot
/-- a list in a slot -/
abbrev Slot.own (xs : List PV) : Slot := .hold (.lst xs)
/-- a dict in a slot -/
abbrev Slot.dwn (ks : List Ky) (vs : List PV) : Slot := .hold (.dct ks vs)
/-- what a thing is as a value -/
def MO.pv : MO → Option PV
  | .lst xs => some (.lst xs)
  | .dct ks vs => some (.dct ks vs)
  | .dead => none

def Slot.mask : Slot → Slot
  | .hold _ => .no
  | s => s
inductive Res (α : Type) where
  | ok (a : α) (S : Sto) | stuck
def Res.bind {α β : Type} : Res α → (α → Sto → Res β) → Res β
  | .ok a S, f => f a S
  | .stuck, _ => .stuck
def Res.opt {α : Type} (S : Sto) : Option α → Res α
  | some a => .ok a S
  | none => .stuck
def Res.chk {α : Type} (b : Bool) (r : Res α) : Res α := if b then r else .stuck

def L : Nat := 16777216

mutual
def eqPV : PV → PV → Bool
  | .non, .non => true
  | .bl a, .bl b => a == b
  | .bl a, .int j => (if a then (1 : Int) else 0) == j
  | .int i, .bl b => i == (if b then 1 else 0)
  | .int i, .int j => i == j
  | .str x, .str y => x == y
  | .lst xs, .lst ys => eqPVs xs ys
  | .tup xs, .tup ys => eqPVs xs ys
  | _, _ => false
def eqPVs : List PV → List PV → Bool
  | [], [] => true
  | x :: xs, y :: ys => eqPV x y && eqPVs xs ys
  | _, _ => false
end
mutual
/-- data of a depth below n, with signs that stand -/
def flat : Nat → PV → Bool
  | _, .non => true
  | _, .bl _ => true
  | _, .int _ => true
  | _, .str x => x.all fun c => Nat.blt c 55296
  | 0, .tup _ => false
  | n + 1, .tup xs => flats n xs
  | 0, .lst _ => false
  | n + 1, .lst xs => flats n xs
  | _, .ref _ => false
  | _, .fn _ => false
  | _, .dct _ _ => false
def flats : Nat → List PV → Bool
  | _, [] => true
  | n, x :: xs => flat n x && flats n xs
end

inductive Bo where | add | sub | mul | fdiv | mod | pow
  deriving DecidableEq
inductive Co where | eq | ne | lt | le | gt | ge | is | isnot | isin | notin
  deriving DecidableEq
/-- functions of Python's own -/
inductive Bl where | len | abs | int | ord | sum | all | any | max | min | tuple | repr | str
  deriving DecidableEq
inductive Ty where | int | bool | str | tuple | list
  deriving DecidableEq
/-- methods that change nothing -/
inductive Mt where | join | count | index | split
  deriving DecidableEq

def sml (i : Int) : Bool := Nat.blt i.natAbs (2 ^ 64)
def wid (i : Int) : Bool := Nat.blt i.natAbs (2 ^ 1000)
/-- a bool as an int -/
def b2 (b : Bool) : Int := if b = true then 1 else 0
/-- an int or a bool as an int -/
def ngI : PV → Option Int
  | .int i => some i
  | .bl b => some (b2 b)
  | _ => none
def binPV : Bo → PV → PV → Option PV
  | .add, .int i, .int j => some (.int (i + j))
  | .add, .bl b, .int j => some (.int (b2 b + j))
  | .mul, .bl b, .int j => some (.int (b2 b * j))
  | .fdiv, .bl b, .int j => if j ≠ 0 ∧ j.natAbs < 2 ^ 200 then some (.int ((b2 b).fdiv j)) else none
  | .add, .str x, .str y => if x.length + y.length ≤ L then some (.str (x ++ y)) else none
  | .add, .tup x, .tup y => if x.length + y.length ≤ L then some (.tup (x ++ y)) else none
  | .sub, .int i, .int j => some (.int (i - j))
  | .mul, .int i, .int j => if sml i || (sml j || (wid i && wid j)) then some (.int (i * j)) else none
  | .mul, .tup x, .int j => if x ≠ [] ∧ 2 ≤ j ∧ j ≤ 16777216 ∧ x.length * j.toNat ≤ L then some (.tup (List.replicate j.toNat x).flatten) else none
  | .mul, .str x, .int j => if 0 ≤ j ∧ j ≤ 16777216 ∧ x.length * j.toNat ≤ L then some (.str (List.replicate j.toNat x).flatten) else none
  | .fdiv, .int i, .int j => if j ≠ 0 ∧ j.natAbs < 2 ^ 200 then some (.int (i.fdiv j)) else none
  | .mod, .int i, .int j => if j ≠ 0 then some (.int (i.fmod j)) else none
  | .pow, .int i, .int j => if 0 ≤ j ∧ j ≤ 1000000 ∧ sml i = true then some (.int (i ^ j.toNat)) else none
  | _, _, _ => none

/-- the order of two texts -/
def ltSg : Sg → Sg → Bool
  | [], [] => false
  | [], _ :: _ => true
  | _ :: _, [] => false
  | a :: x, b :: y => Nat.blt a b || (a == b && ltSg x y)

/-- a value as a key -/
def kyOf : PV → Option Ky
  | .int i => some (.i i)
  | .str x => some (.s x)
  | _ => none
def findD (k : Ky) : List Ky → List PV → Option PV
  | a :: r, v :: q => if a = k then some v else findD k r q
  | _, _ => none
def putDv (k : Ky) (w : PV) : List Ky → List PV → List PV
  | a :: r, v :: q => (if a = k then w else v) :: putDv k w r q
  | _, _ => []
def inPV (x : PV) (ys : List PV) : Bool := ys.any fun z => eqPV z x
def inOf (x q : PV) : Option Bool := match q with
  | .lst ys => if flat 60 x && flats 60 ys then some (inPV x ys) else none
  | .tup ys => if flat 60 x && flats 60 ys then some (inPV x ys) else none
  | .str z => (match x with
    | .str [c] => some (z.any fun d => d == c)
    | _ => none)
  | .dct ks vs => (kyOf x).map fun k => (findD k ks vs).isSome
  | _ => none
def cmpPV : Co → PV → PV → Option Bool
  | .eq, .str x, .str y => some (x == y)
  | .ne, .str x, .str y => some (!(x == y))
  | .eq, p, q => if flat 60 p && flat 60 q then some (eqPV p q) else none
  | .ne, p, q => if flat 60 p && flat 60 q then some (!eqPV p q) else none
  | .lt, .int i, .int j => some (decide (i < j))
  | .le, .int i, .int j => some (decide (i ≤ j))
  | .gt, .int i, .int j => some (decide (j < i))
  | .ge, .int i, .int j => some (decide (j ≤ i))
  | .lt, .str x, .str y => some (ltSg x y)
  | .le, .str x, .str y => some (!ltSg y x)
  | .gt, .str x, .str y => some (ltSg y x)
  | .ge, .str x, .str y => some (!ltSg x y)
  | .is, p, .non => some (match p with | .non => true | _ => false)
  | .isnot, p, .non => some (match p with | .non => false | _ => true)
  | .is, .bl a, .bl b => some (a == b)
  | .isnot, .bl a, .bl b => some (!(a == b))
  | .isin, p, q => inOf p q
  | .notin, p, q => (inOf p q).map (! ·)
  | _, _, _ => none
def truPV : PV → Option Bool
  | .non => some false
  | .bl b => some b
  | .int i => some (!(i == 0))
  | .str x => if x.length ≤ L then some (!x.isEmpty) else none
  | .tup xs => some (!xs.isEmpty)
  | .lst xs => some (!xs.isEmpty)
  | _ => none

/-- the place that an index of any sign means -/
def ixOf (n : Nat) (i : Int) : Option Nat := if 0 ≤ i then (if i < n then some i.toNat else none) else if -(n : Int) ≤ i then some (i + n).toNat else none
def atPV {α : Type} (xs : List α) (i : Int) : Option α := (ixOf xs.length i).bind fun j => xs[j]?
def ixPV : PV → PV → Option PV
  | .tup xs, .int i => atPV xs i
  | .lst xs, .int i => atPV xs i
  | .str x, .int i => if x.length ≤ L then (atPV x i).map fun c => .str [c] else none
  | .dct ks vs, p => (kyOf p).bind fun k => findD k ks vs
  | _, _ => none
/-- a bound of a slice -/
def slB (n d : Nat) : Option Int → Nat
  | none => d
  | some i => if i < 0 then (i + n).toNat else min i.toNat n
def cutS {α : Type} (xs : List α) (lo hi : Option Int) : List α := (xs.drop (slB xs.length 0 lo)).take (slB xs.length xs.length hi - slB xs.length 0 lo)
def slPV : PV → Option Int → Option Int → Option PV
  | .tup xs, lo, hi => some (.tup (cutS xs lo hi))
  | .str x, lo, hi => if x.length ≤ L then some (.str (cutS x lo hi)) else none
  | _, _, _ => none

def intsOf : List PV → Option (List Int)
  | [] => some []
  | .int i :: r => (intsOf r).map (i :: ·)
  | _ => none
def boolsOf : List PV → Option (List Bool)
  | [] => some []
  | .bl b :: r => (boolsOf r).map (b :: ·)
  | _ => none
def strsOf : List PV → Option (List Sg)
  | [] => some []
  | .str x :: r => (strsOf r).map (x :: ·)
  | _ => none
def maxI : Int → List Int → Int
  | m, [] => m
  | m, x :: r => maxI (if m < x then x else m) r
def minI : Int → List Int → Int
  | m, [] => m
  | m, x :: r => minI (if x < m then x else m) r
def isT : Ty → PV → Bool
  | .int, .int _ => true
  | .int, .bl _ => true
  | .bool, .bl _ => true
  | .str, .str _ => true
  | .tuple, .tup _ => true
  | .list, .lst _ => true
  | _, _ => false

def lenPV : List PV → Option PV
  | [.str x] => if x.length ≤ L then some (.int x.length) else none
  | [.tup xs] => some (.int xs.length)
  | [.lst xs] => some (.int xs.length)
  | [.dct ks _] => some (.int ks.length)
  | _ => none
def absPV : List PV → Option PV
  | [.int i] => some (.int (if i < 0 then -i else i))
  | _ => none
def intPV : List PV → Option PV
  | [.int i] => some (.int i)
  | [.bl b] => some (.int (if b then 1 else 0))
  | _ => none
def ordPV : List PV → Option PV
  | [.str [c]] => some (.int c)
  | _ => none
def sumPV : List PV → Option PV
  | [.lst xs] => (intsOf xs).map fun ns => .int ns.sum
  | _ => none
def allPV : List PV → Option PV
  | [.lst xs] => (boolsOf xs).map fun bs => .bl (bs.all id)
  | _ => none
def anyPV : List PV → Option PV
  | [.lst xs] => (boolsOf xs).map fun bs => .bl (bs.any id)
  | _ => none
def maxPV : List PV → Option PV
  | [.int i, .int j] => some (.int (if j > i then j else i))
  | [.lst xs] => (intsOf xs).bind fun ns => match ns with | [] => none | n :: r => some (.int (maxI n r))
  | _ => none
def minPV : List PV → Option PV
  | [.int i, .int j] => some (.int (if j < i then j else i))
  | [.lst xs] => (intsOf xs).bind fun ns => match ns with | [] => none | n :: r => some (.int (minI n r))
  | _ => none
def tuplePV : List PV → Option PV
  | [.tup xs] => some (.tup xs)
  | [.lst xs] => some (.tup xs)
  | _ => none
abbrev toS (x : Sg) : PySem.Str := ⟨x.toArray⟩
/-! data as a whole -/
mutual
def toD : PV → PySem.PyData
  | .non => .none
  | .bl b => .bool b
  | .int i => .int i
  | .str x => .str (toS x)
  | .tup xs => .tuple (toDs xs)
  | .lst xs => .list (toDs xs)
  | .ref _ => .none
  | .fn _ => .none
  | .dct _ _ => .none
def toDs : List PV → List PySem.PyData
  | [] => []
  | x :: r => toD x :: toDs r
end
def shw (p : PV) : PySem.Str := PySem.PyData.shown (toD p)
def reprPV : List PV → Option PV
  | [p] => if flat 60 p && PySem.PyData.showable (toD p) && Nat.ble (shw p).length L then some (.str (shw p).cps.toList) else none
  | _ => none
/-- the text of an int -/
def strI (i : Int) : Sg := (toString i : PySem.Str).cps.toList
def strPV : List PV → Option PV
  | [.int i] => if i.natAbs < 2 ^ 200 then some (.str (strI i)) else none
  | [.str x] => some (.str x)
  | _ => none
def bltPV (f : Bl) (ps : List PV) : Option PV := match f with
  | .len => lenPV ps
  | .abs => absPV ps
  | .int => intPV ps
  | .ord => ordPV ps
  | .sum => sumPV ps
  | .all => allPV ps
  | .any => anyPV ps
  | .max => maxPV ps
  | .min => minPV ps
  | .tuple => tuplePV ps
  | .repr => reprPV ps
  | .str => strPV ps
/-- d.get(k, x) -/
def getPV (d k x : PV) : Option PV := match d with
  | .dct ks vs => (kyOf k).map fun k => (findD k ks vs).getD x
  | _ => none
/-- len(set(xs)), where all are ints and differ -/
def lensPV : PV → Option PV
  | .lst xs => (intsOf xs).bind fun ns => if ns.Nodup ∧ ns.length < 64 then some (.int ns.length) else none
  | _ => none
def joinS (sep : Sg) : List Sg → Sg
  | [] => []
  | [x] => x
  | x :: r => x ++ sep ++ joinS sep r
def findI (x : PV) : Nat → List PV → Option Nat
  | _, [] => none
  | n, y :: r => if eqPV y x then some n else findI x (n + 1) r
def metPV : Mt → PV → List PV → Option PV
  | .join, .str s, [.lst xs] => (strsOf xs).bind fun ys => if (ys.map List.length).sum + ys.length * s.length ≤ L then some (.str (joinS s ys)) else none
  | .count, .lst xs, [y] => if flat 60 y && flats 60 xs then some (.int (xs.countP fun z => eqPV z y)) else none
  | .index, .lst xs, [y] => if flat 60 y && flats 60 xs then (findI y 0 xs).map fun n : Nat => PV.int (n : Int) else none
  | _, _, _ => none

/-! sorted -/
/-- whether x stands ahead of y: ints, texts, tuples whose first items differ -/
def ltI : Int → Int → Bool := fun i j => decide (i < j)
def insB {α : Type} (lt : α → α → Bool) (x : α) : List α → List α
  | [] => [x]
  | y :: r => if lt x y then x :: y :: r else y :: insB lt x r
def srtB {α : Type} (lt : α → α → Bool) : List α → List α
  | [] => []
  | x :: r => insB lt x (srtB lt r)
/-- the first items of tuples, if all are texts -/
def headsOf : List PV → Option (List Sg)
  | [] => some []
  | .tup (.str x :: _) :: r => (headsOf r).map (x :: ·)
  | _ => none
def hdS : PV → Sg
  | .tup (.str x :: _) => x
  | _ => []
def nodupB : List Sg → Bool
  | [] => true
  | x :: r => !r.contains x && nodupB r
def kyS : List Ky → Option (List Sg)
  | [] => some []
  | .s x :: r => (kyS r).map (x :: ·)
  | _ => none
def kyI : List Ky → Option (List Int)
  | [] => some []
  | .i x :: r => (kyI r).map (x :: ·)
  | _ => none
def srtL (xs : List PV) : Option (List PV) := match intsOf xs with
  | some ns => some ((srtB ltI ns).map .int)
  | none => match strsOf xs with
    | some ss => if Nat.blt ss.length 64 then some ((srtB ltSg ss).map .str) else none
    | none => match headsOf xs with
      | some hs => if nodupB hs then some (srtB (fun p q => ltSg (hdS p) (hdS q)) xs) else none
      | none => none
def srtPV : PV → Option (List PV)
  | .lst xs => srtL xs
  | .dct ks _ => match kyS ks with
    | some ss => if Nat.blt ss.length 64 then some ((srtB ltSg ss).map .str) else none
    | none => match kyI ks with
      | some ns => if Nat.blt ns.length 64 then some ((srtB ltI ns).map .int) else none
      | none => none
  | _ => none
/-- a dict of pairs: later ones win -/
def pairsOf : List PV → Option (List (Ky × PV))
  | [] => some []
  | .tup [k, v] :: r => (kyOf k).bind fun k => (pairsOf r).map ((k, v) :: ·)
  | _ => none
def putKy (k : Ky) (v : PV) (d : List Ky × List PV) : List Ky × List PV := if k ∈ d.1 then (d.1, putDv k v d.1 d.2) else (d.1 ++ [k], d.2 ++ [v])
def putAll : List (Ky × PV) → List Ky × List PV → List Ky × List PV
  | [], d => d
  | (k, v) :: r, d => putAll r (putKy k v d)
def dctPV : PV → Option PV
  | .lst xs => (pairsOf xs).map fun ps => let d := putAll ps ([], []); .dct d.1 d.2
  | _ => none

inductive Tg where
  | nm (i : Nat) | tp (ts : List Tg)

mutual
/-- expressions -/
inductive E where
  | v (i : Nat) | non | bl (b : Bool) | int (i : Int) | str (x : Sg)
  | glob (g : Nat)
  | bin (o : Bo) (a b : O) | neg (a : E) | not (a : O)
  | cmp (o : Co) (a b : O) | chain (o p : Co) (a b c : O)
  | and (a b : E) | or (a b : E)
  | ife (c : T) (a b : E)
  | tup (es : List E) | fr (f : F) | new (f : F)
  | ix (a : O) (b : E) | sl (a : O) (lo hi : B)
  | call (f : Nat) (es : List E)
  | blt (f : Bl) (es : List O)
  | isi (a : E) (t : Ty)
  | met (m : Mt) (o : O) (es : List O)
  | dc (own : List Nat) (t : Tg) (it : I) (c : List T) (k e : E)
  | tupr (a : E)
  | get2 (o : O) (k x : E)
  | lens (o : O)
  | dictp (o : O)
/-- tests -/
inductive T where
  | and (a b : T) | or (a b : T) | not (a : T)
  | cmp (o : Co) (a b : O) | chain (o p : Co) (a b c : O)
  | tr (e : O)
/-- operands that are looked at -/
inductive O where
  | own (i : Nat) | e (e : E)
/-- lists that come new -/
inductive F where
  | lst (es : List E)
  | lc (own : List Nat) (t : Tg) (it : I) (c : List T) (e : E)
  | list (o : O)
  | cat (a b : O)
  | slr (a : O)
  | srt (o : O)
  | slc (a : O) (lo hi : B)
  | lrng (a b : E)
  | split (a b : O)
  | callO (f : Nat) (es : List E)
  | rep (f : F) (b : E)
  | lc2 (own own1 : List Nat) (t : Tg) (it : I) (c : List T) (t1 : Tg) (it1 : E) (c1 : List T) (e : E)
/-- a bound of a slice -/
inductive B where
  | no | e (e : E)
/-- what is walked -/
inductive I where
  | sq (o : O)
  | rng (a : E) | rng2 (a b : E)
  | enum (o : O)
  | zip (a b : O)
end

inductive EF where
  | e (e : E) | f (f : F) | d
/-- statements -/
inductive S where
  | set (t : Tg) (e : E)
  | setO (i : Nat) (f : F)
  | par (i : Nat) (a : EF) (j : Nat) (b : EF)
  | setx (o k v : E)
  | setxo (i : Nat) (k v : E)
  | newD (i : Nat)
  | putD (i : Nat) (k v : E)
  | par3 (i : Nat) (a : E) (j : Nat) (b : E) (l : Nat) (c : E)
  | ex (e : E)
  | app (i : Nat) (e : E)
  | appr (o e : E)
  | frz (i : Nat)
  | ite (c : T) (a b : List S)
  | whl (c : T) (b : List S)
  | for (t : Tg) (it : I) (b : List S)
  | ret (e : E) | retO (i : Nat) | retN
  | brk | cont | pass | raise

/-- what surrounds: constants, calls, how many turns a while may take -/
structure Ct where
  cs : List PV
  call : Nat → List PV → Sto → Res PV
  callO : Nat → List PV → Sto → Res (List PV)
  w : Nat

def dr (S : Sto) : PV → PV
  | .ref n => match S[n]? with
    | some (.lst xs) => .lst xs
    | some (.dct ks vs) => .dct ks vs
    | _ => .ref n
  | p => p

mutual
def asg : Tg → PV → Env → Option Env
  | .nm i, p, ρ => some (ρ.set i (.val p))
  | .tp ts, .tup ps, ρ => asgs ts ps ρ
  | .tp ts, .lst ps, ρ => asgs ts ps ρ
  | _, _, _ => none
def asgs : List Tg → List PV → Env → Option Env
  | [], [], ρ => some ρ
  | t :: ts, p :: ps, ρ => (asg t p ρ).bind fun ρ => asgs ts ps ρ
  | _, _, _ => none
end
def wipeE (ρ : Env) : List Nat → Env
  | [] => ρ
  | i :: r => wipeE (ρ.set i .no) r
def rngI (lo : Int) : Nat → List PV
  | 0 => []
  | n + 1 => .int lo :: rngI (lo + 1) n
def enumI : Nat → List PV → List PV
  | _, [] => []
  | n, x :: r => .tup [.int n, x] :: enumI (n + 1) r
def zipI : List PV → List PV → List PV
  | x :: r, y :: q => .tup [x, y] :: zipI r q
  | _, _ => []
def itemsOf : PV → Option (List PV)
  | .tup xs => some xs
  | .lst xs => some xs
  | .str x => some (x.map fun c => .str [c])
  | _ => none
/-- a key as a value -/
def kyP : Ky → PV
  | .i n => .int n
  | .s x => .str x
/-- .. of a walk: a dict that stays gives its keys -/
def itemsX : O → PV → Option (List PV)
  | .e _, .dct ks _ => some (ks.map kyP)
  | _, p => itemsOf p
def listOf : PV → Option (List PV)
  | .tup xs => some xs
  | .lst xs => some xs
  | .str x => if x.length ≤ L then some (x.map fun c => .str [c]) else none
  | _ => none

/-- one turn after another of a list that is made -/
def lcL (t : Tg) (tt : Env → Sto → Res Bool) (te : Env → Sto → Res PV) (ρ : Env) : List PV → List PV → Sto → Res (List PV)
  | [], acc, S => .ok acc S
  | x :: r, acc, S => match asg t x ρ with
    | none => .stuck
    | some ρ' => (tt ρ' S).bind fun b S => if b then (te ρ' S).bind fun y S => .chk (Nat.blt acc.length L) (lcL t tt te ρ r (acc ++ [y]) S) else lcL t tt te ρ r acc S

/-- .. with a second walk within each turn -/
def lc2L (t : Tg) (tt : Env → Sto → Res Bool) (wi : Env → Sto → Res (List PV)) (inn : Env → List PV → List PV → Sto → Res (List PV)) (ρ : Env) : List PV → List PV → Sto → Res (List PV)
  | [], acc, S => .ok acc S
  | x :: r, acc, S => match asg t x ρ with
    | none => .stuck
    | some ρ' => (tt ρ' S).bind fun b S => if b then (wi ρ' S).bind fun ys S => (inn ρ' ys acc S).bind fun acc S => lc2L t tt wi inn ρ r acc S else lc2L t tt wi inn ρ r acc S
/-- .. of a dict -/
def dcL (t : Tg) (tt : Env → Sto → Res Bool) (tk te : Env → Sto → Res PV) (ρ : Env) : List PV → List Ky → List PV → Sto → Res (List Ky × List PV)
  | [], ks, vs, S => .ok (ks, vs) S
  | x :: r, ks, vs, S => match asg t x ρ with
    | none => .stuck
    | some ρ' => (tt ρ' S).bind fun b S => if b then (tk ρ' S).bind fun k S => (te ρ' S).bind fun v S => match kyOf k with
        | none => .stuck
        | some k => .chk (Nat.blt ks.length L) (if k ∈ ks then dcL t tt tk te ρ r ks (putDv k v ks vs) S else dcL t tt tk te ρ r (ks ++ [k]) (vs ++ [v]) S)
      else dcL t tt tk te ρ r ks vs S

section
variable (c : Ct)
mutual
def evE : E → Env → Sto → Res PV
  | .v i, ρ, S => match ρ[i]? with
    | some (.val p) => .ok p S
    | _ => .stuck
  | .non, _, S => .ok .non S
  | .bl b, _, S => .ok (.bl b) S
  | .int i, _, S => .ok (.int i) S
  | .str x, _, S => .ok (.str x) S
  | .glob g, _, S => .opt S c.cs[g]?
  | .bin o a b, ρ, S => (evO a ρ S).bind fun p S => (evO b ρ S).bind fun q S => .opt S (binPV o p q)
  | .neg a, ρ, S => (evE a ρ S).bind fun p S => match ngI p with
    | some i => .ok (.int (-i)) S
    | none => .stuck
  | .not a, ρ, S => (evO a ρ S).bind fun p S => match truPV (dr S p) with
    | some b => .ok (.bl (!b)) S
    | none => .stuck
  | .cmp o a b, ρ, S => (evO a ρ S).bind fun p S => (evO b ρ S).bind fun q S => match cmpPV o (dr S p) (dr S q) with
    | some b => .ok (.bl b) S
    | none => .stuck
  | .chain o o' a b d, ρ, S => (evO a ρ S).bind fun p S => (evO b ρ S).bind fun q S => match cmpPV o (dr S p) (dr S q) with
    | some true => (evO d ρ S).bind fun r S => (match cmpPV o' (dr S q) (dr S r) with
      | some b => .ok (.bl b) S
      | none => .stuck)
    | some false => .ok (.bl false) S
    | none => .stuck
  | .and a b, ρ, S => (evE a ρ S).bind fun p S => match truPV (dr S p) with
    | some true => evE b ρ S
    | some false => .ok p S
    | none => .stuck
  | .or a b, ρ, S => (evE a ρ S).bind fun p S => match truPV (dr S p) with
    | some false => evE b ρ S
    | some true => .ok p S
    | none => .stuck
  | .ife t a b, ρ, S => (evT t ρ S).bind fun k S => if k then evE a ρ S else evE b ρ S
  | .tup es, ρ, S => (evEs es ρ S).bind fun ps S => .chk (Nat.ble ps.length L) (.ok (.tup ps) S)
  | .fr f, ρ, S => (evF f ρ S).bind fun xs S => .ok (.lst xs) S
  | .new f, ρ, S => (evF f ρ S).bind fun xs S => .ok (.ref S.length) (S ++ [.lst xs])
  | .ix a b, ρ, S => (evO a ρ S).bind fun p S => (evE b ρ S).bind fun q S => .opt S (ixPV (dr S p) q)
  | .sl a lo hi, ρ, S => (evO a ρ S).bind fun p S => (evB lo ρ S).bind fun l S => (evB hi ρ S).bind fun h S => .opt S (slPV p l h)
  | .call f es, ρ, S => (evEs es ρ S).bind fun ps S => c.call f ps S
  | .blt f es, ρ, S => (evOs es ρ S).bind fun ps S => .opt S (bltPV f (ps.map (dr S)))
  | .isi a t, ρ, S => (evE a ρ S).bind fun p S => match dr S p with
    | .ref _ => .stuck
    | .fn _ => .stuck
    | .dct _ _ => .stuck
    | p => .ok (.bl (isT t p)) S
  | .met m o es, ρ, S => (evO o ρ S).bind fun p S => (evOs es ρ S).bind fun ps S => .opt S (metPV m p (ps.map (dr S)))
  | .get2 o k x, ρ, S => (evO o ρ S).bind fun p S => (evE k ρ S).bind fun q S => (evE x ρ S).bind fun r S => .opt S (getPV p q r)
  | .lens o, ρ, S => (evO o ρ S).bind fun p S => .opt S (lensPV (dr S p))
  | .dc own t it cs k e, ρ, S => (evI it ρ S).bind fun xs S => (dcL t (fun ρ S => evTs cs ρ S) (fun ρ S => evE k ρ S) (fun ρ S => evE e ρ S) (wipeE ρ own) xs [] [] S).bind fun d S => .ok (.dct d.1 d.2) S
  | .tupr a, ρ, S => (evE a ρ S).bind fun p S => match p with
    | .int j => .chk (Nat.blt j.natAbs (2 ^ 62) && Nat.ble j.toNat L) (.ok (.tup (rngI 0 j.toNat)) S)
    | _ => .stuck
  | .dictp o, ρ, S => (evO o ρ S).bind fun p S => .opt S (dctPV (dr S p))
def evB : B → Env → Sto → Res (Option Int)
  | .no, _, S => .ok none S
  | .e e, ρ, S => (evE e ρ S).bind fun p S => match p with
    | .int i => .ok (some i) S
    | _ => .stuck
def evEs : List E → Env → Sto → Res (List PV)
  | [], _, S => .ok [] S
  | e :: r, ρ, S => (evE e ρ S).bind fun p S => (evEs r ρ S).bind fun ps S => .ok (p :: ps) S
def evO : O → Env → Sto → Res PV
  | .own i, ρ, S => match ρ[i]? with
    | some (.hold (.lst xs)) => .ok (.lst xs) S
    | some (.hold (.dct ks vs)) => .ok (.dct ks vs) S
    | _ => .stuck
  | .e e, ρ, S => evE e ρ S
def evOs : List O → Env → Sto → Res (List PV)
  | [], _, S => .ok [] S
  | e :: r, ρ, S => (evO e ρ S).bind fun p S => (evOs r ρ S).bind fun ps S => .ok (p :: ps) S
def evT : T → Env → Sto → Res Bool
  | .and a b, ρ, S => (evT a ρ S).bind fun k S => if k then evT b ρ S else .ok false S
  | .or a b, ρ, S => (evT a ρ S).bind fun k S => if k then .ok true S else evT b ρ S
  | .not a, ρ, S => (evT a ρ S).bind fun k S => .ok (!k) S
  | .cmp o a b, ρ, S => (evO a ρ S).bind fun p S => (evO b ρ S).bind fun q S => .opt S (cmpPV o (dr S p) (dr S q))
  | .chain o o' a b d, ρ, S => (evO a ρ S).bind fun p S => (evO b ρ S).bind fun q S => match cmpPV o (dr S p) (dr S q) with
    | some true => (evO d ρ S).bind fun r S => .opt S (cmpPV o' (dr S q) (dr S r))
    | some false => .ok false S
    | none => .stuck
  | .tr e, ρ, S => (evO e ρ S).bind fun p S => .opt S (truPV (dr S p))
def evF : F → Env → Sto → Res (List PV)
  | .lst es, ρ, S => (evEs es ρ S).bind fun ps S => .chk (Nat.ble ps.length L) (.ok ps S)
  | .lc own t it cs e, ρ, S => (evI it ρ S).bind fun xs S => lcL t (fun ρ S => evTs cs ρ S) (fun ρ S => evE e ρ S) (wipeE ρ own) xs [] S
  | .list o, ρ, S => (evO o ρ S).bind fun p S => .opt S (listOf (dr S p))
  | .cat a b, ρ, S => (evO a ρ S).bind fun p S => (evO b ρ S).bind fun q S => match dr S p, dr S q with
    | .lst xs, .lst ys => .chk (Nat.ble (xs.length + ys.length) L) (.ok (xs ++ ys) S)
    | _, _ => .stuck
  | .slr a, ρ, S => (evO a ρ S).bind fun p S => match dr S p with
    | .lst xs => .ok xs.reverse S
    | _ => .stuck
  | .srt o, ρ, S => (evO o ρ S).bind fun p S => .opt S (srtPV (dr S p))
  | .slc a lo hi, ρ, S => (evO a ρ S).bind fun p S => (evB lo ρ S).bind fun l S => (evB hi ρ S).bind fun h S => match dr S p with
    | .lst xs => .ok (cutS xs l h) S
    | _ => .stuck
  | .lrng a b, ρ, S => (evE a ρ S).bind fun p S => (evE b ρ S).bind fun q S => match p, q with
    | .int i, .int j => .chk (Nat.blt i.natAbs (2 ^ 62) && Nat.blt j.natAbs (2 ^ 62) && Nat.ble (j - i).toNat L) (.ok (rngI i (j - i).toNat) S)
    | _, _ => .stuck
  | .split a b, ρ, S => (evO a ρ S).bind fun p S => (evO b ρ S).bind fun q S => match p, q with
    | .str x, .str y => .chk (!y.isEmpty && Nat.ble (x.length + 2) L) (.ok ((PySem.Txt.split (toS x) (toS y)).map fun z => .str z.cps.toList) S)
    | _, _ => .stuck
  | .callO f es, ρ, S => (evEs es ρ S).bind fun ps S => c.callO f ps S
  | .rep f b, ρ, S => (evF f ρ S).bind fun xs S => (evE b ρ S).bind fun q S => match q with
    | .int j => .chk (Nat.blt j.natAbs (2 ^ 62) && Nat.ble (xs.length * j.toNat) L) (.ok (List.replicate j.toNat xs).flatten S)
    | _ => .stuck
  | .lc2 own own1 t it cs t1 it1 cs1 e, ρ, S => (evI it ρ S).bind fun xs S =>
    lc2L t (fun ρ S => evTs cs ρ S) (fun ρ S => (evE it1 ρ S).bind fun p S => .opt S (itemsOf p)) (fun ρ ys acc S => lcL t1 (fun ρ S => evTs cs1 ρ S) (fun ρ S => evE e ρ S) (wipeE ρ own1) ys acc S) ((wipeE ρ own).map Slot.mask) xs [] S
def evTs : List T → Env → Sto → Res Bool
  | [], _, S => .ok true S
  | t :: r, ρ, S => (evT t ρ S).bind fun k S => if k then evTs r ρ S else .ok false S
def evI : I → Env → Sto → Res (List PV)
  | .sq o, ρ, S => (evO o ρ S).bind fun p S => .opt S (itemsX o p)
  | .rng a, ρ, S => (evE a ρ S).bind fun p S => match p with
    | .int j => .chk (Nat.blt j.natAbs (2 ^ 62)) (.ok (rngI 0 j.toNat) S)
    | _ => .stuck
  | .rng2 a b, ρ, S => (evE a ρ S).bind fun p S => (evE b ρ S).bind fun q S => match p, q with
    | .int i, .int j => .chk (Nat.blt i.natAbs (2 ^ 62) && Nat.blt j.natAbs (2 ^ 62)) (.ok (rngI i (j - i).toNat) S)
    | _, _ => .stuck
  | .enum o, ρ, S => (evO o ρ S).bind fun p S => match p with
    | .lst xs => .ok (enumI 0 xs) S
    | .tup xs => .ok (enumI 0 xs) S
    | _ => .stuck
  | .zip a b, ρ, S => (evO a ρ S).bind fun p S => (evO b ρ S).bind fun q S => match p, q with
    | .lst xs, .lst ys => .ok (zipI xs ys) S
    | _, _ => .stuck
end

/-- how a statement ends -/
inductive Fl where
  | nx (ρ : Env) | bk (ρ : Env) | ct (ρ : Env) | rt (p : PV) | ro (xs : List PV)
def whlL (t : Env → Sto → Res Bool) (b : Env → Sto → Res Fl) : Nat → Env → Sto → Res Fl
  | 0, _, _ => .stuck
  | n + 1, ρ, S => (t ρ S).bind fun k S => if k then (b ρ S).bind fun f S => match f with
      | .nx ρ => whlL t b n ρ S
      | .ct ρ => whlL t b n ρ S
      | .bk ρ => .ok (.nx ρ) S
      | .rt p => .ok (.rt p) S
      | .ro xs => .ok (.ro xs) S
    else .ok (.nx ρ) S
def forL (t : Tg) (b : Env → Sto → Res Fl) : List PV → Env → Sto → Res Fl
  | [], ρ, S => .ok (.nx ρ) S
  | x :: r, ρ, S => match asg t x ρ with
    | none => .stuck
    | some ρ => (b ρ S).bind fun f S => match f with
      | .nx ρ => forL t b r ρ S
      | .ct ρ => forL t b r ρ S
      | .bk ρ => .ok (.nx ρ) S
      | .rt p => .ok (.rt p) S
      | .ro xs => .ok (.ro xs) S
def evEF : EF → Env → Sto → Res Slot
  | .e e, ρ, S => (evE c e ρ S).bind fun p S => .ok (.val p) S
  | .f f, ρ, S => (evF c f ρ S).bind fun xs S => .ok (.own xs) S
  | .d, _, S => .ok (.dwn [] []) S
mutual
def evS : S → Env → Sto → Res Fl
  | .set t e, ρ, S => (evE c e ρ S).bind fun p S => match asg t p ρ with
    | some ρ => .ok (.nx ρ) S
    | none => .stuck
  | .setO i f, ρ, S => (evF c f ρ S).bind fun xs S => .ok (.nx (ρ.set i (.own xs))) S
  | .par i a j b, ρ, S => (evEF c a ρ S).bind fun x S => (evEF c b ρ S).bind fun y S => .ok (.nx ((ρ.set i x).set j y)) S
  | .setx o k v, ρ, S => (evE c v ρ S).bind fun p S => (evE c o ρ S).bind fun q S => (evE c k ρ S).bind fun r S => match q, r with
    | .ref n, .int i => match S[n]? with
      | some (.lst xs) => match ixOf xs.length i with
        | some j => .ok (.nx ρ) (S.set n (.lst (xs.set j p)))
        | none => .stuck
      | _ => .stuck
    | _, _ => .stuck
  | .setxo i k v, ρ, S => match ρ[i]? with
    | some (.hold (.lst xs)) => (evE c v ρ S).bind fun p S => (evE c k ρ S).bind fun r S => match r with
      | .int j => match ixOf xs.length j with
        | some m => .ok (.nx (ρ.set i (.own (xs.set m p)))) S
        | none => .stuck
      | _ => .stuck
    | _ => .stuck
  | .newD i, ρ, S => .ok (.nx (ρ.set i (.dwn [] []))) S
  | .putD i k v, ρ, S => match ρ[i]? with
    | some (.hold (.dct ks vs)) => (evE c v ρ S).bind fun p S => (evE c k ρ S).bind fun r S => match kyOf r with
      | some k => .chk (Nat.blt ks.length L) (.ok (.nx (ρ.set i (.dwn (putKy k p (ks, vs)).1 (putKy k p (ks, vs)).2))) S)
      | none => .stuck
    | _ => .stuck
  | .par3 i a j b l d, ρ, S => (evE c a ρ S).bind fun p S => (evE c b ρ S).bind fun q S => (evE c d ρ S).bind fun r S => .ok (.nx (((ρ.set i (.val p)).set j (.val q)).set l (.val r))) S
  | .ex e, ρ, S => (evE c e ρ S).bind fun _ S => .ok (.nx ρ) S
  | .app i e, ρ, S => match ρ[i]? with
    | some (.hold (.lst xs)) => (evE c e ρ S).bind fun p S => .chk (Nat.blt xs.length L) (.ok (.nx (ρ.set i (.own (xs ++ [p])))) S)
    | _ => .stuck
  | .appr o e, ρ, S => (evE c o ρ S).bind fun q S => match q with
    | .ref n => match S[n]? with
      | some (.lst _) => (evE c e ρ S).bind fun p S => (match S[n]? with
        | some (.lst xs) => .chk (Nat.blt xs.length L) (.ok (.nx ρ) (S.set n (.lst (xs ++ [p]))))
        | _ => .stuck)
      | _ => .stuck
    | _ => .stuck
  | .frz i, ρ, S => match ρ[i]? with
    | some (.hold (.lst xs)) => .ok (.nx (ρ.set i (.val (.lst xs)))) S
    | some (.hold (.dct ks vs)) => .ok (.nx (ρ.set i (.val (.dct ks vs)))) S
    | _ => .stuck
  | .ite t a b, ρ, S => (evT c t ρ S).bind fun k S => if k then evSs a ρ S else evSs b ρ S
  | .whl t b, ρ, S => whlL (fun ρ S => evT c t ρ S) (fun ρ S => evSs b ρ S) c.w ρ S
  | .for t it b, ρ, S => (evI c it (ρ.map Slot.mask) S).bind fun xs S => forL t (fun ρ S => evSs b ρ S) xs ρ S
  | .ret e, ρ, S => (evE c e ρ S).bind fun p S => .ok (.rt p) S
  | .retO i, ρ, S => match ρ[i]? with
    | some (.hold (.lst xs)) => .ok (.ro xs) S
    | some (.hold (.dct ks vs)) => .ok (.rt (.dct ks vs)) S
    | _ => .stuck
  | .retN, _, S => .ok (.rt .non) S
  | .brk, ρ, S => .ok (.bk ρ) S
  | .cont, ρ, S => .ok (.ct ρ) S
  | .pass, ρ, S => .ok (.nx ρ) S
  | .raise, _, _ => .stuck
def evSs : List S → Env → Sto → Res Fl
  | [], ρ, S => .ok (.nx ρ) S
  | s :: r, ρ, S => (evS s ρ S).bind fun f S => match f with
    | .nx ρ => evSs r ρ S
    | f => .ok f S
end
end

/-- a def: how many parameters, how many names, its body -/
structure Fn where
  np : Nat
  ns : Nat
  body : List S
def enter (d : Fn) (ps : List PV) : Env := ps.map .val ++ List.replicate (d.ns - ps.length) .no
def leaveF : Res Fl → Res PV
  | .ok (.rt p) S => .ok p S
  | .ok (.ro xs) S => .ok (.lst xs) S
  | .ok (.nx _) S => .ok .non S
  | _ => .stuck
def leaveO : Res Fl → Res (List PV)
  | .ok (.ro xs) S => .ok xs S
  | _ => .stuck
/-- a call, of at most so many calls within one another -/
def callR (fns : List Fn) (cs : List PV) (w : Nat) : Nat → Nat → List PV → Sto → Res Fl
  | 0, _, _, _ => .stuck
  | n + 1, f, ps, S => match fns[f]? with
    | some d => .chk (Nat.beq ps.length d.np) (evSs ⟨cs, fun f ps S => leaveF (callR fns cs w n f ps S), fun f ps S => leaveO (callR fns cs w n f ps S), w⟩ d.body (enter d ps) S)
    | none => .stuck
def callN (fns : List Fn) (cs : List PV) (w n f : Nat) (ps : List PV) (S : Sto) : Res PV := leaveF (callR fns cs w n f ps S)
/-- .. of a call whose list is the caller's alone -/
def callO (fns : List Fn) (cs : List PV) (w n f : Nat) (ps : List PV) (S : Sto) : Res (List PV) := leaveO (callR fns cs w n f ps S)
/-- what surrounds a body that may call so deep -/
abbrev ctx (fns : List Fn) (cs : List PV) (w n : Nat) : Ct := ⟨cs, callN fns cs w n, callO fns cs w n, w⟩
theorem callR_succ {fns : List Fn} {cs : List PV} {w n f : Nat} {ps : List PV} {S : Sto} {d : Fn} (h : fns[f]? = some d) : callR fns cs w (n + 1) f ps S = .chk (Nat.beq ps.length d.np) (evSs (ctx fns cs w n) d.body (enter d ps) S) := by
  unfold callR
  rw [h]
  rfl
end Mn
end

section
set_option Elab.async false
set_option linter.all false
set_option autoImplicit false
/-! MnRel: what of the machine's heap a value of MnCore stands for. -/
namespace Mn
open PySem PySem.Spec PyProof.Rows L2

abbrev Frag := PySem.W.Frag

/-- what stays for ever (G), and where the things of the store stand (B) -/
structure Gh where
  G : Hp
  B : List Addr

/-- a list that is read: tracked, locked, or an object of the module just as it was made -/
def SqX (K : Frag) (H : Hp) (a : Addr) (vs : List V) : Prop := Rd H a (.lst vs) ∨ ∃ its : List Value, K.lookup a = some { cls := .type "list", data := .seq its.toArray } ∧ its.length ≤ sizeLine ∧ Vals vs its
theorem SqX.l {K : Frag} {H : Hp} {a : Addr} {vs : List V} (h : SqX K H a vs) : SqL K H a vs := by
  rcases h with h | ⟨its, h1, h2, h3⟩
  · exact .inl h
  · exact .inr ⟨_, its.toArray, _, h1, rfl, rfl, rfl, by simpa using h2, by simpa using h3⟩
theorem SqX.of {K : Frag} {H : Hp} {a : Addr} {vs : List V} (h : H a = some (.lst vs)) : SqX K H a vs := .inl (.inl h)
theorem SqX.at {X : Cx} {pins : List (Addr × Obj)} {σ : L2.St} {H : Hp} {s : Shared} {a : Addr} {vs : List V} (I : Inv X pins σ H s) (h : SqX X.K H a vs) : ∃ (its : List Value) (n : Nat), Vals vs its ∧ s.heap.get? a = some { cls := .type "list", data := .seq its.toArray n } ∧ vs.length ≤ sizeLine := by
  rcases h with h | ⟨its, h1, h2, h3⟩
  · obtain ⟨z, its, n, r, e⟩ := h.ok I.hok
    exact ⟨its, n, r, e, z⟩
  · exact ⟨its, 0, h3, I.kIn a _ h1, by rw [h3.length]; exact h2⟩
def kyK : Ky → Key
  | .i n => .inl n
  | .s x => .inr (toS x)
mutual
inductive Rp (K : Frag) (g : Gh) : V → PV → Prop
  | non : Rp K g .non .non
  | bl (b : Bool) : Rp K g (.bl b) (.bl b)
  | int (i : Int) : Rp K g (.int i) (.int i)
  | str (x : Sg) : Rp K g (.str (toS x)) (.str x)
  | tup {a : Addr} {vs : List V} {xs : List PV} : SqT K g.G a vs → Rps K g vs xs → Rp K g (.ref a) (.tup xs)
  | lst {a : Addr} {vs : List V} {xs : List PV} : SqX K g.G a vs → Rps K g vs xs → Rp K g (.ref a) (.lst xs)
  | ref {a : Addr} {n : Nat} : g.B[n]? = some a → Rp K g (.ref a) (.ref n)
  | dct {a : Addr} {od : Obj} {kvs : List (Key × V)} {ks : List Ky} {xs : List PV} : g.G a = some (.frz od (.dK kvs)) → kvs.map (·.1) = ks.map kyK → Rps K g (kvs.map (·.2)) xs → Rp K g (.ref a) (.dct ks xs)
inductive Rps (K : Frag) (g : Gh) : List V → List PV → Prop
  | nil : Rps K g [] []
  | cons {v : V} {vs : List V} {p : PV} {ps : List PV} : Rp K g v p → Rps K g vs ps → Rps K g (v :: vs) (p :: ps)
end

/-- a later ghost of a later heap -/
structure Stp (g : Gh) (H : Hp) (g' : Gh) (H' : Hp) : Prop where
  gs : ∀ a o, g.G a = some o → g'.G a = some o
  n : ∀ a o, g'.G a = some o → g.G a = some o ∨ H a = none
  b : ∃ more, g'.B = g.B ++ more ∧ ∀ a ∈ more, H a = none
  f : ∀ a o, H a = some o → a ∉ g.B → H' a = some o
theorem Stp.refl (g : Gh) (H : Hp) : Stp g H g H := ⟨fun _ _ h => h, fun _ _ h => .inl h, ⟨[], by simp, fun _ h => by cases h⟩, fun _ _ h _ => h⟩
theorem Stp.bsub {g g' : Gh} {H H' : Hp} (t : Stp g H g' H') {a : Addr} (h : a ∈ g.B) : a ∈ g'.B := by
  obtain ⟨m, e, _⟩ := t.b
  rw [e]; exact List.mem_append_left _ h
theorem Stp.bget {g g' : Gh} {H H' : Hp} (t : Stp g H g' H') {n : Nat} {a : Addr} (h : g.B[n]? = some a) : g'.B[n]? = some a := by
  obtain ⟨m, e, _⟩ := t.b
  rw [e, List.getElem?_append_left (List.getElem?_eq_some_iff.mp h).1]; exact h
theorem Stp.nb {g g' : Gh} {H H' : Hp} (t : Stp g H g' H') {a : Addr} {o : HO} (h : H a = some o) (n : a ∉ g.B) : a ∉ g'.B := by
  obtain ⟨m, e, q⟩ := t.b
  rw [e]; intro z
  rcases List.mem_append.mp z with z | z
  · exact n z
  · rw [q a z] at h; cases h
theorem Stp.trans {g g1 g2 : Gh} {H H1 H2 : Hp} (a : Stp g H g1 H1) (b : Stp g1 H1 g2 H2) (k : ∀ x ∈ g.B, H x ≠ none → H1 x ≠ none) : Stp g H g2 H2 where
  gs := fun x o h => b.gs x o (a.gs x o h)
  n := fun x o h => by
    rcases b.n x o h with z | z
    · exact a.n x o z
    · cases q : H x with
      | none => exact .inr rfl
      | some u =>
        by_cases m : x ∈ g.B
        · exact absurd z (k x m (by rw [q]; simp))
        · rw [a.f x u q m] at z; cases z
  b := by
    obtain ⟨m, e, q⟩ := a.b
    obtain ⟨m2, e2, q2⟩ := b.b
    refine ⟨m ++ m2, by rw [e2, e, List.append_assoc], fun x hx => ?_⟩
    rcases List.mem_append.mp hx with z | z
    · exact q x z
    · have z2 := q2 x z
      cases r : H x with
      | none => rfl
      | some u =>
        by_cases mm : x ∈ g.B
        · exact absurd z2 (k x mm (by rw [r]; simp))
        · rw [a.f x u r mm] at z2; cases z2
  f := fun x o h n => b.f x o (a.f x o h n) (a.nb h n)

theorem sqt_mono {K : Frag} {G G' : Hp} (h : ∀ a o, G a = some o → G' a = some o) {a : Addr} {vs : List V} (s : SqT K G a vs) : SqT K G' a vs := by
  rcases s with (s | ⟨o, s⟩) | s
  · exact .inl (.inl (h _ _ s))
  · exact .inl (.inr ⟨o, h _ _ s⟩)
  · exact .inr s
theorem sql_mono {K : Frag} {G G' : Hp} (h : ∀ a o, G a = some o → G' a = some o) {a : Addr} {vs : List V} (s : SqX K G a vs) : SqX K G' a vs := by
  rcases s with (s | ⟨o, s⟩) | s
  · exact .inl (.inl (h _ _ s))
  · exact .inl (.inr ⟨o, h _ _ s⟩)
  · exact .inr s

section
variable {K : Frag} {g g' : Gh}
mutual
theorem Rp.mono (hg : ∀ a o, g.G a = some o → g'.G a = some o) (hb : ∀ (n : Nat) (a : Addr), g.B[n]? = some a → g'.B[n]? = some a) : ∀ {p : PV} {v : V}, Rp K g v p → Rp K g' v p
  | .non, _, h => by cases h; exact .non
  | .bl _, _, h => by cases h; exact .bl _
  | .int _, _, h => by cases h; exact .int _
  | .str _, _, h => by cases h; exact .str _
  | .tup xs, _, h => by
    cases h with
    | tup s r => exact .tup (sqt_mono hg s) (Rps.mono hg hb r)
  | .lst xs, _, h => by
    cases h with
    | lst s r => exact .lst (sql_mono hg s) (Rps.mono hg hb r)
  | .ref n, _, h => by
    cases h with
    | ref e => exact .ref (hb _ _ e)
  | .fn _, _, h => by cases h
  | .dct ks xs, _, h => by
    cases h with
    | dct s e r => exact .dct (hg _ _ s) e (Rps.mono hg hb r)
theorem Rps.mono (hg : ∀ a o, g.G a = some o → g'.G a = some o) (hb : ∀ (n : Nat) (a : Addr), g.B[n]? = some a → g'.B[n]? = some a) : ∀ {ps : List PV} {vs : List V}, Rps K g vs ps → Rps K g' vs ps
  | [], _, h => by cases h; exact .nil
  | p :: ps, _, h => by
    cases h with
    | cons a b => exact .cons (Rp.mono hg hb a) (Rps.mono hg hb b)
end
theorem Rp.stp {H H' : Hp} (t : Stp g H g' H') {p : PV} {v : V} (h : Rp K g v p) : Rp K g' v p := h.mono t.gs fun _ _ e => t.bget e
theorem Rps.stp {H H' : Hp} (t : Stp g H g' H') {p : List PV} {v : List V} (h : Rps K g v p) : Rps K g' v p := h.mono t.gs fun _ _ e => t.bget e
theorem Rps.length : ∀ {ps : List PV} {vs : List V}, Rps K g vs ps → vs.length = ps.length
  | [], _, h => by cases h; rfl
  | _ :: _, _, h => by
    cases h with
    | cons a b => simp [Rps.length b]
theorem Rps.append : ∀ {ps qs : List PV} {vs ws : List V}, Rps K g vs ps → Rps K g ws qs → Rps K g (vs ++ ws) (ps ++ qs)
  | [], _, _, _, h, k => by cases h; exact k
  | _ :: _, _, _, _, h, k => by
    cases h with
    | cons a b => exact .cons a (Rps.append b k)
theorem Rps.get : ∀ {ps : List PV} {vs : List V} {i : Nat} {p : PV}, Rps K g vs ps → ps[i]? = some p → ∃ v, vs[i]? = some v ∧ Rp K g v p
  | [], _, _, _, _, e => by simp at e
  | _ :: _, _, 0, _, h, e => by
    cases h with
    | cons a b => simp at e; subst e; exact ⟨_, rfl, a⟩
  | _ :: _, _, i + 1, _, h, e => by
    cases h with
    | cons a b =>
      obtain ⟨v, h1, h2⟩ := Rps.get (i := i) b (by simpa using e)
      exact ⟨v, by simpa using h1, h2⟩
theorem Rps.getV : ∀ {ps : List PV} {vs : List V} {i : Nat} {v : V}, Rps K g vs ps → vs[i]? = some v → ∃ p, ps[i]? = some p ∧ Rp K g v p
  | [], _, _, _, h, e => by cases h; simp at e
  | _ :: _, _, 0, _, h, e => by
    cases h with
    | cons a b => simp at e; subst e; exact ⟨_, rfl, a⟩
  | _ :: _, _, i + 1, _, h, e => by
    cases h with
    | cons a b =>
      obtain ⟨v, h1, h2⟩ := Rps.getV (i := i) b (by simpa using e)
      exact ⟨v, by simpa using h1, h2⟩
theorem Rps.take : ∀ {ps : List PV} {vs : List V} (n : Nat), Rps K g vs ps → Rps K g (vs.take n) (ps.take n)
  | _, _, 0, _ => by simp; exact .nil
  | [], _, _ + 1, h => by cases h; exact .nil
  | _ :: _, _, n + 1, h => by
    cases h with
    | cons a b => exact .cons a (Rps.take n b)
theorem Rps.drop : ∀ {ps : List PV} {vs : List V} (n : Nat), Rps K g vs ps → Rps K g (vs.drop n) (ps.drop n)
  | _, _, 0, h => h
  | [], _, _ + 1, h => by cases h; exact .nil
  | _ :: _, _, n + 1, h => by
    cases h with
    | cons a b => exact Rps.drop n b
theorem Rps.set : ∀ {ps : List PV} {vs : List V} {v : V} {p : PV} (n : Nat), Rp K g v p → Rps K g vs ps → Rps K g (vs.set n v) (ps.set n p)
  | [], _, _, _, _, _, h => by cases h; exact .nil
  | _ :: _, _, _, _, 0, r, h => by
    cases h with
    | cons a b => exact .cons r b
  | _ :: _, _, _, _, n + 1, r, h => by
    cases h with
    | cons a b => exact .cons a (Rps.set n r b)
theorem Rps.reverse : ∀ {ps : List PV} {vs : List V}, Rps K g vs ps → Rps K g vs.reverse ps.reverse
  | [], _, h => by cases h; exact .nil
  | _ :: _, _, h => by
    cases h with
    | cons a b =>
      rw [List.reverse_cons, List.reverse_cons]
      exact (Rps.reverse b).append (.cons a .nil)
theorem Rps.rep {ps : List PV} {vs : List V} (h : Rps K g vs ps) : ∀ k : Nat, Rps K g (List.replicate k vs).flatten (List.replicate k ps).flatten
  | 0 => .nil
  | k + 1 => by
    rw [List.replicate_succ, List.replicate_succ, List.flatten_cons, List.flatten_cons]
    exact h.append (Rps.rep h k)
theorem Rps.toI : ∀ {ps : List PV} {vs : List V} {ns : List Int}, Rps K g vs ps → intsOf ps = some ns → vs = ns.map V.int
  | [], _, _, h, e => by cases h; simp [Mn.intsOf] at e; subst e; rfl
  | p :: ps, _, _, h, e => by
    cases h with
    | cons a b =>
      cases p <;> simp [Mn.intsOf] at e
      obtain ⟨r, e1, e2⟩ := e
      subst e2
      cases a
      rw [Rps.toI b e1]; rfl
theorem Rps.toB : ∀ {ps : List PV} {vs : List V} {ns : List Bool}, Rps K g vs ps → boolsOf ps = some ns → vs = ns.map V.bl
  | [], _, _, h, e => by cases h; simp [Mn.boolsOf] at e; subst e; rfl
  | p :: ps, _, _, h, e => by
    cases h with
    | cons a b =>
      cases p <;> simp [Mn.boolsOf] at e
      obtain ⟨r, e1, e2⟩ := e
      subst e2
      cases a
      rw [Rps.toB b e1]; rfl
theorem Rps.toT : ∀ {ps : List PV} {vs : List V} {ns : List Sg}, Rps K g vs ps → strsOf ps = some ns → vs = (ns.map toS).map V.str
  | [], _, _, h, e => by cases h; simp [Mn.strsOf] at e; subst e; rfl
  | p :: ps, _, _, h, e => by
    cases h with
    | cons a b =>
      cases p <;> simp [Mn.strsOf] at e
      obtain ⟨r, e1, e2⟩ := e
      subst e2
      cases a
      rw [Rps.toT b e1]; rfl
end

/-- a thing of the store and what stands there -/
inductive ObR (K : Frag) (g : Gh) (H : Hp) (a : Addr) : MO → Prop
  | lst {vs : List V} {xs : List PV} : H a = some (.lst vs) → Rps K g vs xs → ObR K g H a (.lst xs)
  | dct {kvs : List (Key × V)} {ks : List Ky} {xs : List PV} : H a = some (.dK kvs) → kvs.map (·.1) = ks.map kyK → Rps K g (kvs.map (·.2)) xs → ObR K g H a (.dct ks xs)
  | dead : ObR K g H a .dead
/-- the store is held -/
structure StR (K : Frag) (g : Gh) (H : Hp) (S : Sto) : Prop where
  sub : ∀ a o, g.G a = some o → H a = some o
  len : g.B.length = S.length
  ob : ∀ (n : Nat) (a : Addr) (mo : MO), g.B[n]? = some a → S[n]? = some mo → ObR K g H a mo
  nog : ∀ a ∈ g.B, g.G a = none
  nd : g.B.Nodup
  ok : ∀ a ∈ g.B, H a ≠ none
theorem StR.sqt {K : Frag} {g : Gh} {H : Hp} {S : Sto} (r : StR K g H S) {a : Addr} {vs : List V} (s : SqT K g.G a vs) : SqT K H a vs := sqt_mono r.sub s
theorem StR.sql {K : Frag} {g : Gh} {H : Hp} {S : Sto} (r : StR K g H S) {a : Addr} {vs : List V} (s : SqX K g.G a vs) : SqX K H a vs := sql_mono r.sub s

/-- a value that is looked at now: one that stays, or a list in a slot -/
def RdO (K : Frag) (g : Gh) (H : Hp) (v : V) (p : PV) : Prop := Rp K g v p ∨ ∃ a m, v = .ref a ∧ m.pv = some p ∧ ObR K g H a m ∧ H a ≠ none ∧ g.G a = none ∧ a ∉ g.B
inductive RdOs (K : Frag) (g : Gh) (H : Hp) : List V → List PV → Prop
  | nil : RdOs K g H [] []
  | cons {v : V} {vs : List V} {p : PV} {ps : List PV} : RdO K g H v p → RdOs K g H vs ps → RdOs K g H (v :: vs) (p :: ps)
theorem ObR.at {K : Frag} {g : Gh} {H H' : Hp} {a : Addr} {m : MO} (h : ObR K g H a m) (e : ∀ o, H a = some o → H' a = some o) : ObR K g H' a m := by
  cases h with
  | lst h r => exact .lst (e _ h) r
  | dct h z r => exact .dct (e _ h) z r
  | dead => exact .dead
theorem ObR.stp {K : Frag} {g g' : Gh} {H H' : Hp} {a : Addr} {m : MO} (t : Stp g H g' H') (b : a ∉ g.B) (h : ObR K g H a m) : ObR K g' H' a m := by
  cases h with
  | lst h r => exact .lst (t.f _ _ h b) (r.stp t)
  | dct h e r => exact .dct (t.f _ _ h b) e (r.stp t)
  | dead => exact .dead
theorem Stp.keepN {g g' : Gh} {H H' : Hp} {a : Addr} (t : Stp g H g' H') (h : H a ≠ none) (n : g.G a = none) (b : a ∉ g.B) : H' a ≠ none ∧ g'.G a = none ∧ a ∉ g'.B := by
  cases e : H a with
  | none => exact absurd e h
  | some u =>
    refine ⟨by rw [t.f _ _ e b]; simp, ?_, t.nb e b⟩
    cases q : g'.G a with
    | none => rfl
    | some o =>
      rcases t.n a o q with z | z
      · rw [n] at z; cases z
      · rw [e] at z; cases z
theorem RdO.stp {K : Frag} {g g' : Gh} {H H' : Hp} {v : V} {p : PV} (t : Stp g H g' H') (h : RdO K g H v p) : RdO K g' H' v p := by
  rcases h with h | ⟨a, m, e1, e2, h, r, n, b⟩
  · exact .inl (h.stp t)
  · obtain ⟨x, y, z⟩ := t.keepN r n b
    exact .inr ⟨a, m, e1, e2, h.stp t b, x, y, z⟩
theorem RdOs.stp {K : Frag} {g g' : Gh} {H H' : Hp} (t : Stp g H g' H') : ∀ {vs : List V} {ps : List PV}, RdOs K g H vs ps → RdOs K g' H' vs ps
  | _, _, .nil => .nil
  | _, _, .cons a b => .cons (a.stp t) (RdOs.stp t b)

/-- what a value looked at is, by the store as it is -/
inductive Lk (K : Frag) (g : Gh) (H : Hp) : V → PV → Prop
  | lst {a : Addr} {vs : List V} {xs : List PV} : SqX K H a vs → Rps K g vs xs → Lk K g H (.ref a) (.lst xs)
  | tup {a : Addr} {vs : List V} {xs : List PV} : SqT K H a vs → Rps K g vs xs → Lk K g H (.ref a) (.tup xs)
  | non : Lk K g H .non .non
  | bl (b : Bool) : Lk K g H (.bl b) (.bl b)
  | int (i : Int) : Lk K g H (.int i) (.int i)
  | str (x : Sg) : Lk K g H (.str (toS x)) (.str x)
  | ref {a : Addr} {n : Nat} : g.B[n]? = some a → Lk K g H (.ref a) (.ref n)
  | dct {a : Addr} {kvs : List (Key × V)} {ks : List Ky} {xs : List PV} : Rd H a (.dK kvs) → kvs.map (·.1) = ks.map kyK → Rps K g (kvs.map (·.2)) xs → Lk K g H (.ref a) (.dct ks xs)
theorem ObR.lk {K : Frag} {g : Gh} {H : Hp} {a : Addr} {m : MO} {p : PV} (h : ObR K g H a m) (e : m.pv = some p) : Lk K g H (.ref a) p := by
  cases h with
  | lst h q => cases e; exact .lst (SqX.of h) q
  | dct h e' q => cases e; exact .dct (.inl h) e' q
  | dead => cases e
theorem MO.pv_dr {m : MO} {p : PV} {S : Sto} (e : m.pv = some p) : dr S p = p := by
  cases m <;> cases e <;> rfl
theorem RdO.lk {K : Frag} {g : Gh} {H : Hp} {S : Sto} {v : V} {p : PV} (r : StR K g H S) (h : RdO K g H v p) : Lk K g H v (dr S p) := by
  rcases h with h | ⟨a, m, rfl, e, h, _, _, _⟩
  · cases h with
    | non => exact .non
    | bl b => exact .bl b
    | int i => exact .int i
    | str x => exact .str x
    | tup s q => exact .tup (r.sqt s) q
    | lst s q => exact .lst (r.sql s) q
    | @ref a n e =>
      unfold dr
      simp only
      cases q : S[n]? with
      | none => exact .ref e
      | some mo =>
        cases mo with
        | lst xs =>
          cases r.ob n a _ e q with
          | lst h1 h2 => exact .lst (SqX.of h1) h2
        | dct ks xs =>
          cases r.ob n a _ e q with
          | dct h1 h2 h3 => exact .dct (.inl h1) h2 h3
        | dead => exact .ref e
    | dct s e q => exact .dct (.inr ⟨_, r.sub _ _ s⟩) e q
  · rw [MO.pv_dr e]
    exact h.lk e
/-- .. and without a look into the store -/
theorem RdO.lk0 {K : Frag} {g : Gh} {H : Hp} {S : Sto} {v : V} {p : PV} (r : StR K g H S) (h : RdO K g H v p) : Lk K g H v p := by
  rcases h with h | ⟨a, m, rfl, e, h, _, _, _⟩
  · cases h with
    | non => exact .non
    | bl b => exact .bl b
    | int i => exact .int i
    | str x => exact .str x
    | tup s q => exact .tup (r.sqt s) q
    | lst s q => exact .lst (r.sql s) q
    | ref e => exact .ref e
    | dct s e q => exact .dct (.inr ⟨_, r.sub _ _ s⟩) e q
  · exact h.lk e
inductive Lks (K : Frag) (g : Gh) (H : Hp) : List V → List PV → Prop
  | nil : Lks K g H [] []
  | cons {v : V} {vs : List V} {p : PV} {ps : List PV} : Lk K g H v p → Lks K g H vs ps → Lks K g H (v :: vs) (p :: ps)
theorem RdOs.lks {K : Frag} {g : Gh} {H : Hp} {S : Sto} (r : StR K g H S) : ∀ {vs : List V} {ps : List PV}, RdOs K g H vs ps → Lks K g H vs (ps.map (dr S))
  | _, _, .nil => .nil
  | _, _, .cons a b => .cons (a.lk r) (RdOs.lks r b)

/-! ### data as a whole -/
section
variable {K : Frag} {g : Gh} {H : Hp} (hs : ∀ a o, g.G a = some o → H a = some o)
include hs
mutual
theorem Rp.dp : ∀ {p : PV} {v : V} {n : Nat}, flat n p = true → Rp K g v p → Dp K H v (toD p)
  | .non, _, _, _, h => by cases h; simp only [toD]; exact .non
  | .bl b, _, _, _, h => by cases h; simp only [toD]; exact .bl b
  | .int i, _, _, _, h => by cases h; simp only [toD]; exact .int i
  | .str x, _, _, _, h => by cases h; simp only [toD]; exact .str _
  | .tup xs, _, n, f, h => by
    cases h with
    | tup s r =>
      cases n with
      | zero => simp [flat] at f
      | succ n =>
        simp only [flat] at f
        simp only [toD]
        exact .tup (sqt_mono hs s) (Rps.dps f r)
  | .lst xs, _, n, f, h => by
    cases h with
    | lst s r =>
      cases n with
      | zero => simp [flat] at f
      | succ n =>
        simp only [flat] at f
        simp only [toD]
        exact .lst (sql_mono hs s).l (Rps.dps f r)
  | .ref _, _, _, f, _ => by simp [flat] at f
  | .fn _, _, _, f, _ => by simp [flat] at f
  | .dct _ _, _, _, f, _ => by simp [flat] at f
theorem Rps.dps : ∀ {ps : List PV} {vs : List V} {n : Nat}, flats n ps = true → Rps K g vs ps → DpAll K H vs (toDs ps)
  | [], _, _, _, h => by cases h; simp only [toDs]; exact .nil
  | p :: ps, _, n, f, h => by
    cases h with
    | cons a b =>
      simp only [flats, Bool.and_eq_true] at f
      simp only [toDs]
      exact .cons (Rp.dp f.1 a) (Rps.dps f.2 b)
end
theorem Lk.dp {p : PV} {v : V} {n : Nat} (f : flat n p = true) (h : Lk K g H v p) : Dp K H v (toD p) := by
  cases h with
  | non => simp only [toD]; exact .non
  | bl b => simp only [toD]; exact .bl b
  | int i => simp only [toD]; exact .int i
  | str x => simp only [toD]; exact .str _
  | tup s r =>
    cases n with
    | zero => simp [flat] at f
    | succ n =>
      simp only [flat] at f
      simp only [toD]
      exact .tup s (Rps.dps hs f r)
  | lst s r =>
    cases n with
    | zero => simp [flat] at f
    | succ n =>
      simp only [flat] at f
      simp only [toD]
      exact .lst s.l (Rps.dps hs f r)
  | ref _ => simp [flat] at f
  | dct _ _ _ => simp [flat] at f
end
mutual
theorem eqv_toD : ∀ (p q : PV) (n m : Nat), flat n p = true → flat m q = true → PyData.eqv (toD p) (toD q) = eqPV p q
  | p, q, n, m, fp, fq => by
    cases p <;> cases q <;> (try (simp [flat] at fp; done)) <;> (try (simp [flat] at fq; done)) <;> (try (simp only [toD, PyData.eqv, eqPV]; done))
    case str.str x y =>
      simp only [toD, PyData.eqv, eqPV]
      rw [Bool.eq_iff_iff, beq_iff_eq, beq_iff_eq]
      simp [toS]
    case tup.tup xs ys =>
      cases n with
      | zero => simp [flat] at fp
      | succ n =>
        cases m with
        | zero => simp [flat] at fq
        | succ m =>
          simp only [flat] at fp fq
          simp only [toD, PyData.eqv, eqPV]
          exact eqvs_toD xs ys n m fp fq
    case lst.lst xs ys =>
      cases n with
      | zero => simp [flat] at fp
      | succ n =>
        cases m with
        | zero => simp [flat] at fq
        | succ m =>
          simp only [flat] at fp fq
          simp only [toD, PyData.eqv, eqPV]
          exact eqvs_toD xs ys n m fp fq
  termination_by p => sizeOf p
theorem eqvs_toD : ∀ (ps qs : List PV) (n m : Nat), flats n ps = true → flats m qs = true → PyData.eqvAll (toDs ps) (toDs qs) = eqPVs ps qs
  | [], [], _, _, _, _ => by simp only [toDs, PyData.eqvAll, eqPVs]
  | [], _ :: _, _, _, _, _ => by simp only [toDs, PyData.eqvAll, eqPVs]
  | _ :: _, [], _, _, _, _ => by simp only [toDs, PyData.eqvAll, eqPVs]
  | p :: ps, q :: qs, n, m, fp, fq => by
    simp only [flats, Bool.and_eq_true] at fp fq
    simp only [toDs, PyData.eqvAll, eqPVs]
    rw [eqv_toD p q n m fp.1 fq.1, eqvs_toD ps qs n m fp.2 fq.2]
  termination_by ps => sizeOf ps
end
end Mn
end

section
set_option Elab.async false
set_option linter.all false
set_option autoImplicit false
set_option maxHeartbeats 1000000
/-! MnOps: the operations of values, over the machine. -/
namespace Mn
open PySem PySem.Spec PyProof.Rows L2

theorem dget_rd {H : Hp} {a : Addr} {kvs : List (Key × V)} {k : Key} (e : Rd H a (.dK kvs)) : DGet H a (kV k) (valV kvs k) := .inl ⟨kvs, k, e, rfl, rfl⟩
/-- len of a dict, locked or not -/
theorem call_lenR {X : Cx} : CallR X (.builtin "len") (fun xs H Q => ∃ a kvs, xs = [V.ref a] ∧ Rd H a (.dK kvs) ∧ Q (.int kvs.length) H) := by
  intro pins s σ H xs us Q I r h
  obtain ⟨a, kvs, rfl, ha, q⟩ := h
  obtain ⟨u, rfl, ru⟩ := vals1 r
  cases ru
  exact d_len I ha fun t s' I' => ⟨.int kvs.length, H, I', ⟨t, rfl⟩, q⟩
/-- what is made is locked -/
def tLk (t : TE) : TE := fun σ H Q => t σ H fun v H' => ∃ d kvs, v = .ref d ∧ H' d = some (.dK kvs) ∧ ∀ od, Q v (upd H' d (.frz od (.dK kvs)))
theorem pe_lk {X : Cx} {e : Expr} {t : TE} (h : PE X e t) : PE X e (tLk t) := ⟨fun pins s σ H Q I q => by
  refine thn (h.run pins s σ H _ I q) fun v s1 ⟨x, H1, I1, r, d, kvs, ex, hd, q⟩ => ?_
  obtain ⟨od, I2⟩ := I1.lock hd trivial
  exact ⟨x, _, I2, r, q od⟩⟩
theorem PE.or2 {X : Cx} {e : Expr} {t u : TE} (h1 : PE X e t) (h2 : PE X e u) : PE X e (fun σ H Q => t σ H Q ∨ u σ H Q) := ⟨fun pins s σ H Q I q => by
  rcases q with q | q
  · exact h1.run pins s σ H Q I q
  · exact h2.run pins s σ H Q I q⟩
def tLkS (t : TS) : TS := fun D σ H => t D σ H ∨ ∃ d kvs, H d = some (.dK kvs) ∧ ∀ od, t D σ (upd H d (.frz od (.dK kvs)))
theorem pss_lk {X : Cx} {sts : List Stmt} {t : TS} (h : PSs X sts t) : PSs X sts (tLkS t) := ⟨fun pins s σ H D I q => by
  rcases q with q | ⟨d, kvs, hd, q⟩
  · exact h.run pins s σ H D I q
  · obtain ⟨od, I2⟩ := I.lock hd trivial
    exact h.run pins s σ _ D I2 (q od)⟩
theorem upd_upd {H : Hp} {a : Addr} {o o' : HO} : upd (upd H a o) a o' = upd H a o' := by
  funext b
  by_cases z : b = a
  · rw [z, upd_same, upd_same]
  · rw [upd_ne z, upd_ne z, upd_ne z]
section
variable {K : Frag} {g : Gh} {H : Hp} {S : Sto}
/-- what is wanted behind an operation that gives p and leaves the store -/
def Aft (K : Frag) (g : Gh) (H : Hp) (S : Sto) (p : PV) (Q : VK) : Prop := ∀ g' v H', Stp g H g' H' → StR K g' H' S → Rp K g' v p → Q v H'
theorem Aft.here {p : PV} {v : V} {Q : VK} (r : StR K g H S) (h : Aft K g H S p Q) (q : Rp K g v p) : Q v H := h g v H (.refl g H) r q

theorem ne_B {a p : Addr} (r : StR K g H S) (hp : H p = none) (h : a ∈ g.B) : a ≠ p := fun e => r.ok a h (e ▸ hp)
theorem ObR.keep {g' : Gh} {H' : Hp} {a : Addr} {mo : MO} (h : ObR K g H a mo) (hh : ∀ o, H a = some o → H' a = some o) (hg : ∀ a o, g.G a = some o → g'.G a = some o) (hb : ∀ (n : Nat) (a : Addr), g.B[n]? = some a → g'.B[n]? = some a) : ObR K g' H' a mo := by
  cases h with
  | lst e q => exact .lst (hh _ e) (q.mono hg hb)
  | dct e z q => exact .dct (hh _ e) z (q.mono hg hb)
  | dead => exact .dead
/-- a new thing that is not told -/
theorem StR.junk (r : StR K g H S) {p : Addr} (hp : H p = none) (o : HO) : Stp g H g (upd H p o) ∧ StR K g (upd H p o) S := by
  have keep : ∀ a o', H a = some o' → upd H p o a = some o' := fun a o' e => by rw [upd_ne (fun z => by rw [z, hp] at e; cases e)]; exact e
  refine ⟨⟨fun _ _ h => h, fun _ _ h => .inl h, ⟨[], by simp, fun _ h => by cases h⟩, fun a o' e _ => keep a o' e⟩, ⟨fun a o' e => keep a o' (r.sub a o' e), r.len, fun n a mo h1 h2 => ?_, r.nog, r.nd, fun a ha => ?_⟩⟩
  · exact (r.ob n a mo h1 h2).keep (fun o' => keep a o') (fun _ _ h => h) fun _ _ h => h
  · rw [upd_ne (ne_B r hp ha)]; exact r.ok a ha
/-- a new thing that stays -/
theorem StR.put (r : StR K g H S) {p : Addr} (hp : H p = none) (o : HO) : Stp g H ⟨upd g.G p o, g.B⟩ (upd H p o) ∧ StR K ⟨upd g.G p o, g.B⟩ (upd H p o) S := by
  obtain ⟨t, q⟩ := r.junk hp o
  have gp : g.G p = none := by
    cases e : g.G p with
    | none => rfl
    | some u => rw [r.sub p u e] at hp; cases hp
  have up : ∀ a o', g.G a = some o' → upd g.G p o a = some o' := fun a o' e => by rw [upd_ne (fun z => by rw [z, gp] at e; cases e)]; exact e
  refine ⟨⟨up, fun a o' e => ?_, ⟨[], by simp, fun _ h => by cases h⟩, t.f⟩, ⟨fun a o' e => ?_, r.len, fun n a mo h1 h2 => ?_, fun a ha => ?_, r.nd, q.ok⟩⟩
  · by_cases z : a = p
    · subst z; exact .inr hp
    · have e' : upd g.G p o a = some o' := e
      rw [upd_ne z] at e'; exact .inl e'
  · have e' : upd g.G p o a = some o' := e
    by_cases z : a = p
    · subst z; rw [upd_same] at e' ⊢; exact e'
    · rw [upd_ne z] at e' ⊢; exact r.sub a o' e'
  · exact (q.ob n a mo h1 h2).keep (fun _ h => h) up fun _ _ h => h
  · show upd g.G p o a = none
    rw [upd_ne (ne_B r hp ha)]; exact r.nog a ha
theorem Aft.tup {p : Addr} {vs : List V} {xs : List PV} {Q : VK} (r : StR K g H S) (h : Aft K g H S (.tup xs) Q) (q : Rps K g vs xs) (hp : H p = none) : Q (.ref p) (upd H p (.tup vs)) := by
  obtain ⟨t, r'⟩ := r.put hp (.tup vs)
  exact h _ _ _ t r' (.tup (.inl (.inl upd_same)) (q.stp t))
theorem Aft.lst {p : Addr} {vs : List V} {xs : List PV} {Q : VK} (r : StR K g H S) (h : Aft K g H S (.lst xs) Q) (q : Rps K g vs xs) (hp : H p = none) : Q (.ref p) (upd H p (.lst vs)) := by
  obtain ⟨t, r'⟩ := r.put hp (.lst vs)
  exact h _ _ _ t r' (.lst (.inl (.inl upd_same)) (q.stp t))
end

theorem ofOpt {α : Type} {S S' : Sto} {o : Option α} {a : α} (h : Res.opt S o = .ok a S') : o = some a ∧ S' = S := by
  cases o with
  | none => cases h
  | some b => cases h; exact ⟨rfl, rfl⟩
theorem ofChk {α : Type} {b : Bool} {r : Res α} {a : α} {S : Sto} (h : Res.chk b r = .ok a S) : b = true ∧ r = .ok a S := by
  unfold Res.chk at h
  cases b with
  | true => exact ⟨rfl, h⟩
  | false => cases h
theorem ofBind {α β : Type} {r : Res α} {f : α → Sto → Res β} {b : β} {S : Sto} (h : r.bind f = .ok b S) : ∃ a S1, r = .ok a S1 ∧ f a S1 = .ok b S := by
  cases r with
  | ok a S1 => exact ⟨a, S1, rfl, h⟩
  | stuck => cases h

def bop : Bo → Operator
  | .add => .Add | .sub => .Sub | .mul => .Mult | .fdiv => .FloorDiv | .mod => .Mod | .pow => .Pow
theorem sml_lt {i : Int} (h : sml i = true) : -(2 ^ 64) < i ∧ i < 2 ^ 64 := by
  have h1 : i.natAbs < 2 ^ 64 := Nat.le_of_ble_eq_true h
  omega
theorem line_L : (sizeLine : Nat) = L := by rw [sizeLine_eq]; rfl
theorem len_toS (x : Sg) : (toS x).length = x.length := by simp [toS, Str.length]
theorem app_toS (x y : Sg) : toS x ++ toS y = toS (x ++ y) := by
  show Str.append _ _ = _
  simp [Str.append, toS]

/-! dicts -/
theorem kyK_inj {a b : Ky} (h : kyK a = kyK b) : a = b := by
  cases a <;> cases b <;> simp only [kyK, Sum.inl.injEq, Sum.inr.injEq, reduceCtorEq] at h
  · rw [h]
  · rename_i x y
    have : x = y := by
      have h2 := congrArg (fun z : PySem.Str => z.cps.toList) h
      simpa [toS] using h2
    rw [this]
theorem kyOf_V {K : Frag} {g : Gh} {H : Hp} {v : V} {p : PV} {k : Ky} (h : Lk K g H v p) (e : kyOf p = some k) : v = kV (kyK k) := by
  cases h <;> simp only [kyOf, Option.some.injEq, reduceCtorEq] at e <;> subst e <;> rfl
theorem findD_val {K : Frag} {g : Gh} (k : Ky) : ∀ {kvs : List (Key × V)} {ks : List Ky} {xs : List PV}, kvs.map (·.1) = ks.map kyK → Rps K g (kvs.map (·.2)) xs →
    (∀ p, findD k ks xs = some p → ∃ v, valV kvs (kyK k) = some v ∧ Rp K g v p) ∧ (findD k ks xs = none → valV kvs (kyK k) = none)
  | [], [], _, _, r => by
    cases r
    exact ⟨fun p h => by simp [findD] at h, fun _ => rfl⟩
  | [], _ :: _, _, e, _ => by simp at e
  | _ :: _, [], _, e, _ => by simp at e
  | (a, v) :: kvs, b :: ks, xs, e, r => by
    rw [List.map_cons] at r
    cases r with
    | @cons _ _ x xs r1 r2 =>
    simp only [List.map_cons, List.cons.injEq] at e
    obtain ⟨e1, e2⟩ := e
    subst e1
    by_cases hk : b = k
    · subst hk
      have z : findD b (b :: ks) (x :: xs) = some x := by simp [findD]
      rw [z]
      exact ⟨fun p h => ⟨v, valV_pos rfl, by cases h; exact r1⟩, fun h => by cases h⟩
    · have z : findD k (b :: ks) (x :: xs) = findD k ks xs := by simp [findD, hk]
      have w : valV ((kyK b, v) :: kvs) (kyK k) = valV kvs (kyK k) := valV_neg fun q => hk (kyK_inj q)
      rw [z, w]
      exact findD_val k e2 r2
theorem findD_some {K : Frag} {g : Gh} (k : Ky) {kvs : List (Key × V)} {ks : List Ky} {xs : List PV} (e : kvs.map (·.1) = ks.map kyK) (r : Rps K g (kvs.map (·.2)) xs) : (valV kvs (kyK k)).isSome = (findD k ks xs).isSome := by
  obtain ⟨h1, h2⟩ := findD_val k e r
  cases q : findD k ks xs with
  | none => rw [h2 q]; rfl
  | some p =>
    obtain ⟨v, hv, _⟩ := h1 p q
    rw [hv]; rfl
section
variable {X : Cx}
/-- a tuple times an int, wide -/
def rRepTW (K : Frag) : R2 := fun x y H Q => ∃ l k xs, x = .ref l ∧ y = .int k ∧ SqT K H l xs ∧ xs ≠ [] ∧ 2 ≤ k ∧ k ≤ 16777216 ∧ xs.length * k.toNat ≤ sizeLine ∧ ∀ p, H p = none → Q (.ref p) (upd H p (.tup (List.replicate k.toNat xs).flatten))
theorem op_repTW : OpR X (binaryOp .Mult) (rRepTW X.K) := by
  intro pins s σ H x y v u Q I rx ry h
  obtain ⟨l, k, xs, rfl, rfl, hT, hne, h1, h2, hz, q⟩ := h
  cases rx
  obtain ⟨t, rfl⟩ := ry
  obtain ⟨its, r, ⟨⟨cls, dd, data, sl⟩, ho, hc, n, hd⟩, hs⟩ := I.tuple hT
  simp only at hc hd
  subst hc hd
  have hle : its.length = xs.length := r.length.symm
  have hn : its ≠ [] := fun e => hne (by
    rw [e] at hle
    exact List.eq_nil_of_length_eq_zero hle.symm)
  have hi : its.toArray.isEmpty = false := by
    cases its with
    | nil => exact absurd rfl hn
    | cons a b => rfl
  have hsz0 : its.toArray.size = xs.length := by rw [List.size_toArray, hle]
  have hz' : xs.length * k.toNat ≤ 16777216 := by
    have := hz
    rw [line_L] at this
    exact this
  have hm : ((its.toArray.size : Nat) : Int) * k ≤ 16777216 := by
    rw [hsz0]
    have e : k = ((k.toNat : Nat) : Int) := by omega
    rw [e, ← Int.natCast_mul]
    exact Int.ofNat_le.mpr hz'
  have flen : (List.replicate k.toNat its).flatten.length ≤ sizeLine := by
    rw [PyProof.Rows.lm_len_rep_flat, hle, Nat.mul_comm]
    exact hz
  have c0 : (decide (k < -(2 ^ 63)) || decide (k ≥ 2 ^ 63)) = false := by
    rw [decide_eq_false (by omega), decide_eq_false (by omega)] <;> rfl
  have c1 : (its.toArray.isEmpty || k == 1) = false := by
    rw [hi, Bool.false_or]
    exact beq_eq_false_iff_ne.mpr (by omega)
  have c2 : (decide (k ≤ 0) || its.toArray.isEmpty) = false := by
    rw [hi, Bool.or_false]
    exact decide_eq_false (by omega)
  have c4 : Builtin.Tuple.tupleTooMany (((its.toArray.size : Nat) : Int) * k) = false := by
    unfold Builtin.Tuple.tupleTooMany
    rw [sizeLine_eq]
    exact decide_eq_false (by omega)
  refine wpAny_binaryOp_repeat_ref (T := "tuple") (U := "int") (by decide) ⟨_, ho, rfl⟩ (fun s' => typeIs_int s' k t) noFill_tuple_mul F.fills_int_mul F.slot_int_rmul repeat_tuple F.slot_int_index.lookup
    (call_meets F.slot_int_rmul (typeIs_int s k t) F.entry_int_rmul (F.args_int_rmul_2 _ _) (int_rmul_tuple k t l its.toArray n dd sl)
      ⟨ho, rfl, ⟨_, ho, rfl⟩, call_meets F.slot_tuple_mul ⟨_, ho, rfl⟩ F.entry_tuple_mul (F.args_tuple_mul_2 _ _) (tuple_mulW l its.toArray n dd sl k t c0 c1 c2 (by omega) c4 (by rw [size_rep, List.size_toArray]; exact flen)) ⟨ho, ?_⟩⟩)
  rw [size_rep]
  refine ⟨.ref s.heap.objs.size, _, I.laid (t' := s.toks) (o := .tup (List.replicate k.toNat xs).flatten) (fun b ob q => Heap.get?_push_of_some _ q) (Nat.le_refl _) ?_, rfl, q _ (I.hok.fresh (Nat.le_refl _))⟩
  exact ⟨by rw [PyProof.Rows.lm_len_rep_flat, Nat.mul_comm]; exact hz, _, r.rep k.toNat, IsTup.new _ _⟩
/-- a text times an int -/
def rRepS : R2 := fun x y H Q => ∃ z k, x = .str (toS z) ∧ y = .int k ∧ 0 ≤ k ∧ k ≤ 16777216 ∧ z.length * k.toNat ≤ sizeLine ∧ Q (.str (toS (List.replicate k.toNat z).flatten)) H
theorem fold_strs (z : Sg) : ∀ m : Nat, (List.replicate m z.toArray).foldl (· ++ ·) #[] = (List.replicate m z).flatten.toArray := fun m => by
  have h : ∀ (m : Nat) (acc : List Nat), (List.replicate m z.toArray).foldl (· ++ ·) acc.toArray = (acc ++ (List.replicate m z).flatten).toArray := by
    intro m
    induction m with
    | zero => intro acc; simp
    | succ m ih =>
      intro acc
      rw [List.replicate_succ, List.replicate_succ, List.foldl_cons, List.flatten_cons]
      have e : acc.toArray ++ z.toArray = (acc ++ z).toArray := by simp
      rw [e, ih, List.append_assoc]
  simpa using h m []
theorem op_repS : OpR X (binaryOp .Mult) rRepS := by
  intro pins s σ H x y v u Q I rx ry h
  obtain ⟨z, k, rfl, rfl, h0, h1, hz, q⟩ := h
  obtain ⟨t, rfl⟩ := rx
  obtain ⟨t2, rfl⟩ := ry
  have hz' : z.length * k.toNat ≤ 16777216 := by
    have := hz
    rw [line_L] at this
    exact this
  have hl : (toS z).length = z.length := len_toS z
  have hmul : ((z.length : Nat) : Int) * k ≤ 16777216 := by
    have e : k = ((k.toNat : Nat) : Int) := by omega
    rw [e, ← Int.natCast_mul]
    exact Int.ofNat_le.mpr hz'
  refine P.mul_str (by rw [decide_eq_false (by omega), decide_eq_false (by omega)] <;> rfl) (fun n1 _ => ?_) (fun n1 _ => ?_) ?_
  · rw [hl]
    have hk : 0 < k := by omega
    have : ((z.length : Nat) : Int) ≤ (2 ^ 63 - 1) / k := by
      rw [Int.le_ediv_iff_mul_le hk]
      omega
    omega
  · rw [hl]
    unfold PySem.Builtin.Str.tooLong
    exact decide_eq_false (Nat.not_lt.mpr hz)
  · by_cases n1 : k < 1
    · rw [if_pos n1]
      have e : k.toNat = 0 := by omega
      rw [e] at q
      exact ⟨by decide, ⟨.str _, H, I.tok _, ⟨_, rfl⟩, q⟩⟩
    · rw [if_neg n1]
      by_cases n2 : (k == 1 || (toS z).length == 0) = true
      · rw [if_pos n2]
        have e : (List.replicate k.toNat z).flatten = z := by
          rw [Bool.or_eq_true, beq_iff_eq, beq_iff_eq, hl] at n2
          rcases n2 with n2 | n2
          · rw [n2]; simp
          · have : z = [] := List.eq_nil_of_length_eq_zero n2
            subst this
            simp
        rw [e] at q
        exact ⟨.str _, H, I, ⟨_, rfl⟩, q⟩
      · rw [if_neg n2]
        have e : (⟨(List.replicate k.toNat (toS z).cps).foldl (· ++ ·) #[]⟩ : PySem.Str) = toS (List.replicate k.toNat z).flatten := by
          show (⟨(List.replicate k.toNat z.toArray).foldl (· ++ ·) #[]⟩ : PySem.Str) = _
          rw [fold_strs]
        rw [e]
        refine ⟨?_, ⟨.str _, H, I.tok _, ⟨_, rfl⟩, q⟩⟩
        rw [len_toS, PyProof.Rows.lm_len_rep_flat, Nat.mul_comm]
        exact hz
end
section
variable {X : Cx}
/-- two operands that are known, and what the operation gives -/
def RB (X : Cx) (op : PV → PV → Option PV) : R2 := fun x y H Q => ∃ g S p q r, StR X.K g H S ∧ RdO X.K g H x p ∧ RdO X.K g H y q ∧ op p q = some r ∧ Aft X.K g H S r Q

theorem log2_200 {j : Int} (h : j.natAbs < 2 ^ 200) : j.natAbs.log2 < 9000 := by
  have := PySem.Flt.log2_lt_of (n := j.natAbs) (k := 200) (by decide) h
  omega

theorem floordiv_bool_int {prog : Program} {w : World} {A : Around} {E : Value → Shared → Prop} {s : Shared} {Q : Value → Shared → Prop} {a : Bool} {b : Int} {u : Tok} (hb : b ≠ 0) (hp : Builtin.divisionGoesByPylong (b2 a) b = false) (h : Q (.int ((b2 a).fdiv b) s.toks) { s with toks := s.toks + 1 }) :
    wpAny (model prog w) A (binaryOp .FloorDiv (.bool a) (.int b u)) Q E s := by
  refine wpAny_binaryOp_two (op := .FloorDiv) (T := "bool") (U := "int") (by decide) rfl (fun s' => typeIs_int s' b u) F.fills_bool_floordiv F.fills_int_floordiv F.sub_int_bool F.slot_bool_floordiv F.slot_int_rfloordiv ?_
  refine wpAny_mono (?_ : wpAny (model prog w) A (call (.builtin "int.__floordiv__") [.bool a, .int b u]) (fun v s' => v ≠ .notImplemented ∧ Q v s') E s) (fun _ _ x => .inl x) fun _ _ x => x
  refine wpAny_call_entry F.slot_bool_floordiv rfl F.entry_int_floordiv ?_ (F.args_int_floordiv_2 _ _)
  have hb' : (b == 0) = false := by simpa using hb
  show wpAny _ _ (do
    if b == 0 then rule "int.floordiv.zero"; raiseError "ZeroDivisionError" "integer division or modulo by zero"
    Builtin.roomForPylong (b2 a) b
    ret (← mkInt ((b2 a).fdiv b))) _ _ s
  simp only [hb', Bool.false_eq_true, if_false, pure_bind]
  exact wpAny_bind (wpAny_roomForPylong (.inl hp) (wpAny_ret_mkInt ⟨by simp, h⟩))
theorem neg_bool {prog : Program} {w : World} {A : Around} {E : Value → Shared → Prop} {s : Shared} {Q : Value → Shared → Prop} {a : Bool} (h : Q (.int (-(b2 a)) s.toks) { s with toks := s.toks + 1 }) : wpAny (model prog w) A (unaryOp .USub (.bool a)) Q E s :=
  unaryOp_gives (op := .USub) (T := "bool") rfl rfl F.slot_bool_neg F.entry_int_neg (F.args_int_neg_1 _) (show Gives (Builtin.«int.__neg__» ⟨[.bool a], []⟩) (.int (-(b2 a))) from .of_eq rfl) h
/-- minus, of an int and of a bool -/
theorem un_negB : UnR X (unaryOp .USub) (fun x H Q => (∃ i, x = .int i ∧ Q (.int (-i)) H) ∨ ∃ k, x = .bl k ∧ Q (.int (-(b2 k))) H) := by
  intro pins s σ H x v Q I rx h
  rcases h with ⟨i, rfl, q⟩ | ⟨k, rfl, q⟩
  · obtain ⟨t, rfl⟩ := rx
    exact neg_int ⟨.int _, H, I.tok _, ⟨_, rfl⟩, q⟩
  · cases rx
    exact neg_bool ⟨.int _, H, I.tok _, ⟨_, rfl⟩, q⟩
theorem op_bin (o : Bo) : OpR X (binaryOp (bop o)) (RB X (binPV o)) := by
  intro pins s σ H x y v u Q I rx ry h
  obtain ⟨g, S, p, q, r, st, hp, hq, e, a⟩ := h
  have kp := hp.lk0 st
  have kq := hq.lk0 st
  cases o with
  | add =>
    cases kp with
    | int i =>
      cases kq with
      | int j =>
        simp only [binPV, Option.some.injEq] at e
        subst e
        exact op_add pins s σ H _ _ v u Q I rx ry ⟨i, j, rfl, rfl, a.here st (.int _)⟩
      | _ => simp [binPV] at e
    | str i =>
      cases kq with
      | str j =>
        simp only [binPV] at e
        split at e
        case isFalse => cases e
        case isTrue hl =>
          cases e
          refine op_add_str pins s σ H _ _ v u Q I rx ry ⟨_, _, rfl, rfl, by rw [len_toS, len_toS, line_L]; exact hl, ?_⟩
          rw [app_toS]
          exact a.here st (.str _)
      | _ => simp [binPV] at e
    | tup s1 r1 =>
      cases kq with
      | tup s2 r2 =>
        simp only [binPV] at e
        split at e
        case isFalse => cases e
        case isTrue hl =>
          cases e
          refine op_catA pins s σ H _ _ v u Q I rx ry ⟨_, _, _, _, rfl, rfl, s1, s2, by rw [r1.length, r2.length, line_L]; exact hl, fun z => ?_, fun _ z => ?_, fun _ _ p hp => a.tup st (r1.append r2) hp⟩
          · subst z
            cases r1
            rw [List.nil_append] at a
            rcases hq with hq | ⟨_, m, _, e2, _⟩
            · exact a.here st hq
            · cases m <;> cases e2
          · subst z
            cases r2
            rw [List.append_nil] at a
            rcases hp with hp | ⟨_, m, _, e2, _⟩
            · exact a.here st hp
            · cases m <;> cases e2
      | _ => simp [binPV] at e
    | bl k =>
      cases kq with
      | int j =>
        simp only [binPV, Option.some.injEq] at e
        subst e
        obtain ⟨t', rfl⟩ := ry
        cases rx
        exact PySem.IntBool.add_bool_int ⟨.int _, H, I.tok _, ⟨_, rfl⟩, a.here st (.int _)⟩
      | _ => simp [binPV] at e
    | _ => cases kq <;> simp [binPV] at e
  | sub =>
    cases kp with
    | int i =>
      cases kq with
      | int j =>
        simp only [binPV, Option.some.injEq] at e
        subst e
        exact op_sub pins s σ H _ _ v u Q I rx ry ⟨i, j, rfl, rfl, a.here st (.int _)⟩
      | _ => simp [binPV] at e
    | _ => cases kq <;> simp [binPV] at e
  | mul =>
    cases kp with
    | int i =>
      cases kq with
      | int j =>
        simp only [binPV] at e
        split at e
        case isFalse => cases e
        case isTrue hl =>
          cases e
          rw [Bool.or_eq_true, Bool.or_eq_true, Bool.and_eq_true] at hl
          by_cases hs : sml i = true ∨ sml j = true
          · exact op_mul pins s σ H _ _ v u Q I rx ry ⟨i, j, rfl, rfl, hs.imp sml_lt sml_lt, a.here st (.int _)⟩
          · have hw : wid i = true ∧ wid j = true := by
              rcases hl with h | h | h
              · exact absurd (.inl h) hs
              · exact absurd (.inr h) hs
              · exact h
            have w1 : i.natAbs < 2 ^ 1000 := Nat.le_of_ble_eq_true hw.1
            have w2 : j.natAbs < 2 ^ 1000 := Nat.le_of_ble_eq_true hw.2
            exact op_mulW pins s σ H _ _ v u Q I rx ry ⟨i, j, rfl, rfl, wide_mul (a := 1000) (b := 1000) w1 w2 (by decide) (by decide) (by decide), a.here st (.int _)⟩
      | _ => simp [binPV] at e
    | tup s1 r1 =>
      cases kq with
      | int j =>
        simp only [binPV] at e
        split at e
        case isFalse => cases e
        case isTrue hl =>
          cases e
          obtain ⟨h1, h2, h3, h4⟩ := hl
          refine op_repTW pins s σ H _ _ v u Q I rx ry ⟨_, j, _, rfl, rfl, s1, fun z => ?_, h2, h3, by rw [r1.length, line_L]; exact h4, fun p hp => a.tup st (r1.rep _) hp⟩
          subst z
          cases r1
          exact absurd rfl h1
      | _ => simp [binPV] at e
    | str z =>
      cases kq with
      | int j =>
        simp only [binPV] at e
        split at e
        case isFalse => cases e
        case isTrue hl =>
          cases e
          exact op_repS pins s σ H _ _ v u Q I rx ry ⟨z, j, rfl, rfl, hl.1, hl.2.1, by rw [line_L]; exact hl.2.2, a.here st (.str _)⟩
      | _ => simp [binPV] at e
    | bl k =>
      cases kq with
      | int j =>
        simp only [binPV, Option.some.injEq] at e
        subst e
        obtain ⟨t', rfl⟩ := ry
        cases rx
        exact PySem.IntBool.mul_bool_int ⟨.int _, H, I.tok _, ⟨_, rfl⟩, a.here st (.int _)⟩
      | _ => simp [binPV] at e
    | _ => cases kq <;> simp [binPV] at e
  | fdiv =>
    cases kp with
    | int i =>
      cases kq with
      | int j =>
        simp only [binPV] at e
        split at e
        case isFalse => cases e
        case isTrue hl =>
          cases e
          obtain ⟨t, rfl⟩ := rx
          obtain ⟨t', rfl⟩ := ry
          exact floordiv_int hl.1 ⟨.int _, H, I.tok _, ⟨_, rfl⟩, a.here st (.int _)⟩ (.inl (PyProof.noPylong_of_log2 (log2_200 hl.2)))
      | _ => simp [binPV] at e
    | bl k =>
      cases kq with
      | int j =>
        simp only [binPV] at e
        split at e
        case isFalse => cases e
        case isTrue hl =>
          cases e
          obtain ⟨t', rfl⟩ := ry
          cases rx
          exact floordiv_bool_int hl.1 (PyProof.noPylong_of_log2 (log2_200 hl.2)) ⟨.int _, H, I.tok _, ⟨_, rfl⟩, a.here st (.int _)⟩
      | _ => simp [binPV] at e
    | _ => cases kq <;> simp [binPV] at e
  | mod =>
    cases kp with
    | int i =>
      cases kq with
      | int j =>
        simp only [binPV] at e
        split at e
        case isFalse => cases e
        case isTrue hl =>
          cases e
          exact op_modN pins s σ H _ _ v u Q I rx ry ⟨i, j, rfl, rfl, hl, a.here st (.int _)⟩
      | _ => simp [binPV] at e
    | _ => cases kq <;> simp [binPV] at e
  | pow =>
    cases kp with
    | int i =>
      cases kq with
      | int j =>
        simp only [binPV] at e
        split at e
        case isFalse => cases e
        case isTrue hl =>
          cases e
          exact op_pow pins s σ H _ _ v u Q I rx ry ⟨i, j, rfl, rfl, ⟨hl.1, hl.2.1, Nat.le_of_ble_eq_true hl.2.2⟩, a.here st (.int _)⟩
      | _ => simp [binPV] at e
    | _ => cases kq <;> simp [binPV] at e

/-! ### comparisons -/
def cop : Co → CmpOp
  | .eq => .Eq | .ne => .NotEq | .lt => .Lt | .le => .LtE | .gt => .Gt | .ge => .GtE | .is => .Is | .isnot => .IsNot | .isin => .In | .notin => .NotIn
def RC (X : Cx) (op : PV → PV → Option Bool) : R2 := fun x y H Q => ∃ g S p q r, StR X.K g H S ∧ Lk X.K g H x p ∧ Lk X.K g H y q ∧ op p q = some r ∧ Q (.bl r) H
mutual
theorem shp {p : PV} {n : Nat} (f : flat n p = true) : (toD p).canLay0 = true ∧ (toD p).depth ≤ n := by
  match p, n, f with
  | .non, _, _ => simp [toD, PyData.canLay0, PyData.depth]
  | .bl _, _, _ => simp [toD, PyData.canLay0, PyData.depth]
  | .int _, _, _ => simp [toD, PyData.canLay0, PyData.depth]
  | .str x, n, f =>
    simp only [flat, List.all_eq_true] at f
    refine ⟨?_, by simp [toD, PyData.depth]⟩
    simp only [toD, PyData.canLay0]
    show (toS x).cps.all (fun c => decide (c < 0x110000)) = true
    simp only [toS, List.all_toArray, List.all_eq_true, decide_eq_true_eq]
    intro c hc
    have := Nat.le_of_ble_eq_true (f c hc)
    omega
  | .tup xs, n + 1, f =>
    simp only [flat] at f
    obtain ⟨h1, h2⟩ := shps f
    exact ⟨by simp only [toD, PyData.canLay0]; exact h1, by simp only [toD, PyData.depth]; omega⟩
  | .lst xs, n + 1, f =>
    simp only [flat] at f
    obtain ⟨h1, h2⟩ := shps f
    exact ⟨by simp only [toD, PyData.canLay0]; exact h1, by simp only [toD, PyData.depth]; omega⟩
theorem shps {ps : List PV} {n : Nat} (f : flats n ps = true) : PyData.canLayAll0 (toDs ps) = true ∧ PyData.depthAll (toDs ps) ≤ n := by
  match ps, f with
  | [], _ => simp [toDs, PyData.canLayAll0, PyData.depthAll]
  | p :: r, f =>
    simp only [flats, Bool.and_eq_true] at f
    obtain ⟨h1, h2⟩ := shp f.1
    obtain ⟨h3, h4⟩ := shps f.2
    exact ⟨by simp only [toDs, PyData.canLayAll0, h1, h3, Bool.and_self], by simp only [toDs, PyData.depthAll]; omega⟩
end
theorem shaped_of {p : PV} (f : flat 60 p = true) : SeqAt.shaped (toD p) = true := by
  obtain ⟨h1, h2⟩ := shp f
  unfold SeqAt.shaped
  rw [h1, Bool.true_and]
  exact decide_eq_true (by omega)
theorem shaped_ofs {ps : List PV} (f : flats 60 ps = true) : SeqAt.shaped (.list (toDs ps)) = true := by
  obtain ⟨h1, h2⟩ := shps f
  unfold SeqAt.shaped
  simp only [PyData.canLay0, h1, Bool.true_and, PyData.depth]
  exact decide_eq_true (by omega)
theorem dp_list {K : Frag} {g : Gh} {H : Hp} (hs : ∀ a o, g.G a = some o → H a = some o) {a : Addr} {vs : List V} {xs : List PV} (s : SqL K H a vs) (r : Rps K g vs xs) (f : flats 60 xs = true) : Dp K H (.ref a) (.list (toDs xs)) :=
  .lst s (Rps.dps hs f r)
theorem any_toD {x : PV} (fx : flat 60 x = true) : ∀ {ys : List PV}, flats 60 ys = true → (toDs ys).any (fun z => PyData.eqv z (toD x)) = inPV x ys
  | [], _ => by simp [toDs, inPV]
  | y :: r, f => by
    simp only [flats, Bool.and_eq_true] at f
    have ih := any_toD fx f.2
    unfold inPV at ih ⊢
    simp only [toDs, List.any_cons, eqv_toD y x 60 60 f.1 fx, ih]

/-- x in a tuple, by data -/
theorem in_tup (hu : X.A.units + 65 < cLine) {neg : Bool} {pins : List (Addr × Obj)} {s : Shared} {σ : L2.St} {H : Hp} {x : V} {a : Addr} {vs : List V} {v : Value} {Q : VK} {g : Gh} {p : PV} {ys : List PV} (hs : ∀ a o, g.G a = some o → H a = some o) (I : Inv X pins σ H s) (rx : RelV x v)
    (h1 : Lk X.K g H x p) (h2 : SqT X.K H a vs) (h3 : Rps X.K g vs ys) (fx : flat 60 p = true) (fy : flats 60 ys = true) (q : Q (.bl (if neg then !inPV p ys else inPV p ys)) H) :
    wpAny (model X.prog X.w) X.A (compareOp (if neg then .NotIn else .In) v (.ref a)) (EP X pins σ Q) X.xe s := by
  obtain ⟨as, r1⟩ := Dp.reads I (toD p) x v (h1.dp hs fx) rx
  obtain ⟨its, rv, ht, hz⟩ := I.tuple h2
  obtain ⟨bs, r2⟩ := Dp.readsAll I (toDs ys) vs its (Rps.dps hs fy h3) rv
  have c1 := SeqAt.canLay_of_shaped (shaped_of fx)
  have c2 : PyData.canLayAll0 (toDs ys) = true := (shps fy).1
  have d1 := (shp fx).2
  have hroom : X.A.units + 1 + min (PyData.depthAll (toDs ys)) (toD p).depth < cLine := by
    have : min (PyData.depthAll (toDs ys)) (toD p).depth ≤ (toD p).depth := Nat.min_le_right _ _
    omega
  have h4 : ReadsAll s.heap its.toArray.toList (toDs ys) bs := by simpa using r2
  have hm : ∀ u ∈ its.toArray, SeqAt.EqAt X.A.in1 s u v (PyData.eqv (SeqAt.readOf s.heap u) (toD p)) := SeqAt.items_eqAt h4 r1 c2 c1 hroom
  have hmap : its.map (SeqAt.readOf s.heap) = toDs ys := SeqAt.readsAll_map (toDs ys) its bs c2 r2
  have e : its.toArray.any (fun u => PyData.eqv (SeqAt.readOf s.heap u) (toD p)) = inPV p ys := by
    rw [← any_toD fx fy, ← hmap, List.any_map]
    simp [Function.comp_def]
  cases neg with
  | false =>
    exact SeqAt.in_tupleAt (fun u => PyData.eqv (SeqAt.readOf s.heap u) (toD p)) ht (fun w hw => hm w hw) ⟨.bl _, H, I, rfl, by rw [e]; exact q⟩
  | true =>
    exact SeqAt.notIn_tupleAt (fun u => PyData.eqv (SeqAt.readOf s.heap u) (toD p)) ht (fun w hw => hm w hw) ⟨.bl _, H, I, rfl, by rw [e]; exact q⟩
theorem ltSg_iff : ∀ x y : Sg, ltSg x y = decide (x < y)
  | [], [] => by simp [ltSg]
  | [], _ :: _ => by simp [ltSg]
  | _ :: _, [] => by simp [ltSg]
  | a :: x, b :: y => by
    simp only [ltSg, ltSg_iff x y, List.cons_lt_cons_iff, Bool.decide_or, Bool.decide_and]
    congr 1
    · rw [Bool.eq_iff_iff]
      simp [Nat.blt_eq]
theorem dec_toS {x y : Sg} : decide (V.str (toS x) = V.str (toS y)) = (x == y) := by
  rw [Bool.eq_iff_iff]
  simp [toS]
theorem op_cmp (hu : X.A.units + 65 < cLine) (o : Co) : OpR X (compareOp (cop o)) (RC X (cmpPV o)) := by
  intro pins s σ H x y v u Q I rx ry h
  obtain ⟨g, S, p, q, r, st, kp, kq, e, a⟩ := h
  have hu' : X.A.units + 64 < cLine := by omega
  have eqq : flat 60 p = true → flat 60 q = true → ∀ b, b = eqPV p q → b = PyData.eqv (toD p) (toD q) := fun h1 h2 b e => by rw [eqv_toD p q 60 60 h1 h2]; exact e
  cases o with
  | eq =>
    by_cases hss : ∃ x y, p = .str x ∧ q = .str y
    · obtain ⟨x', y', rfl, rfl⟩ := hss
      cases kp
      cases kq
      cases e
      refine op_eq pins s σ H _ _ v u Q I rx ry ⟨rfl, ?_⟩
      rw [dec_toS]
      exact a
    have e : (if (flat 60 p && flat 60 q) = true then some (eqPV p q) else none) = some r := by
      revert e
      cases p <;> cases q <;> first | exact id | exact absurd ⟨_, _, rfl, rfl⟩ hss
    split at e
    case isFalse => cases e
    case isTrue hl =>
      cases e
      rw [Bool.and_eq_true] at hl
      refine op_eqD hu' pins s σ H _ _ v u Q I rx ry ⟨_, _, kp.dp st.sub hl.1, kq.dp st.sub hl.2, shaped_of hl.1, shaped_of hl.2, ?_⟩
      rw [eqv_toD p q 60 60 hl.1 hl.2]
      exact a
  | ne =>
    by_cases hss : ∃ x y, p = .str x ∧ q = .str y
    · obtain ⟨x', y', rfl, rfl⟩ := hss
      cases kp
      cases kq
      cases e
      refine op_ne pins s σ H _ _ v u Q I rx ry ⟨rfl, ?_⟩
      rw [dec_toS]
      exact a
    have e : (if (flat 60 p && flat 60 q) = true then some (!eqPV p q) else none) = some r := by
      revert e
      cases p <;> cases q <;> first | exact id | exact absurd ⟨_, _, rfl, rfl⟩ hss
    split at e
    case isFalse => cases e
    case isTrue hl =>
      cases e
      rw [Bool.and_eq_true] at hl
      refine op_neD hu' pins s σ H _ _ v u Q I rx ry ⟨_, _, kp.dp st.sub hl.1, kq.dp st.sub hl.2, shaped_of hl.1, shaped_of hl.2, ?_⟩
      rw [eqv_toD p q 60 60 hl.1 hl.2]
      exact a
  | lt =>
    cases kp <;> cases kq <;> simp only [cmpPV, Option.some.injEq, reduceCtorEq] at e
    case int.int i j => subst e; exact op_lt pins s σ H _ _ v u Q I rx ry ⟨i, j, rfl, rfl, a⟩
    case str.str i j =>
      subst e
      refine op_lt_str pins s σ H _ _ v u Q I rx ry ⟨_, _, rfl, rfl, ?_⟩
      rw [ltSg_iff] at a
      exact a
  | le =>
    cases kp <;> cases kq <;> simp only [cmpPV, Option.some.injEq, reduceCtorEq] at e
    case int.int i j => subst e; exact op_le pins s σ H _ _ v u Q I rx ry ⟨i, j, rfl, rfl, a⟩
    case str.str i j =>
      subst e
      refine op_le_str pins s σ H _ _ v u Q I rx ry ⟨_, _, rfl, rfl, ?_⟩
      rw [ltSg_iff] at a
      exact a
  | gt =>
    cases kp <;> cases kq <;> simp only [cmpPV, Option.some.injEq, reduceCtorEq] at e
    case int.int i j => subst e; exact op_gt pins s σ H _ _ v u Q I rx ry ⟨i, j, rfl, rfl, a⟩
    case str.str i j =>
      subst e
      refine op_gt_str pins s σ H _ _ v u Q I rx ry ⟨_, _, rfl, rfl, ?_⟩
      rw [ltSg_iff] at a
      exact a
  | ge =>
    cases kp <;> cases kq <;> simp only [cmpPV, Option.some.injEq, reduceCtorEq] at e
    case int.int i j => subst e; exact op_ge pins s σ H _ _ v u Q I rx ry ⟨i, j, rfl, rfl, a⟩
    case str.str i j =>
      subst e
      refine op_ge_str pins s σ H _ _ v u Q I rx ry ⟨_, _, rfl, rfl, ?_⟩
      rw [ltSg_iff] at a
      exact a
  | is =>
    cases kq with
    | non =>
      refine op_isN pins s σ H _ _ v u Q I rx ry ⟨rfl, ?_⟩
      cases kp <;> simp only [cmpPV, Option.some.injEq] at e <;> subst e <;> simpa using a
    | bl j =>
      cases kp with
      | bl i =>
        simp only [cmpPV, Option.some.injEq] at e
        subst e
        refine op_isBl pins s σ H _ _ v u Q I rx ry ⟨i, j, rfl, rfl, ?_⟩
        rw [← Bool.beq_eq_decide_eq]
        exact a
      | _ => simp [cmpPV] at e
    | _ => cases kp <;> simp [cmpPV] at e
  | isnot =>
    cases kq with
    | non =>
      refine op_notN pins s σ H _ _ v u Q I rx ry ⟨rfl, ?_⟩
      cases kp <;> simp only [cmpPV, Option.some.injEq] at e <;> subst e <;> simpa using a
    | bl j =>
      cases kp with
      | bl i =>
        simp only [cmpPV, Option.some.injEq] at e
        subst e
        refine op_notBl pins s σ H _ _ v u Q I rx ry ⟨i, j, rfl, rfl, ?_⟩
        rw [← Bool.beq_eq_decide_eq]
        exact a
      | _ => simp [cmpPV] at e
    | _ => cases kp <;> simp [cmpPV] at e
  | isin =>
    simp only [cmpPV] at e
    cases kq with
    | @lst a2 vs2 ys s2 r2 =>
      simp only [inOf] at e
      split at e
      case isFalse => cases e
      case isTrue hl =>
        injection e with e
        subst e
        rw [Bool.and_eq_true] at hl
        refine L2.op_inD hu pins s σ H _ _ v u Q I rx ry ⟨toD p, toDs ys, kp.dp st.sub hl.1, dp_list st.sub s2.l r2 hl.2, shaped_of hl.1, shaped_ofs hl.2, ?_⟩
        rw [any_toD hl.1 hl.2]
        exact a
    | @tup a2 vs2 ys s2 r2 =>
      simp only [inOf] at e
      split at e
      case isFalse => cases e
      case isTrue hl =>
        injection e with e
        subst e
        rw [Bool.and_eq_true] at hl
        cases ry
        exact in_tup (neg := false) hu st.sub I rx kp s2 r2 hl.1 hl.2 a
    | str z =>
      simp only [inOf] at e
      split at e
      case h_2 => cases e
      case h_1 c =>
        injection e with e
        subst e
        cases kp
        refine op_in_sign pins s σ H _ _ v u Q I rx ry ⟨c, toS z, rfl, rfl, ?_⟩
        have e2 : decide (c ∈ (toS z).cps.toList) = z.any fun d => d == c := by
          rw [Bool.eq_iff_iff]
          simp [toS, List.any_eq_true]
        rw [e2]; exact a
    | @dct ad kvs ks xs hd ek rr =>
      simp only [inOf, Option.map_eq_some_iff] at e
      obtain ⟨k, hk, e⟩ := e
      subst e
      have := kyOf_V kp hk
      subst this
      cases ry
      refine d_in (by omega) I (dget_rd hd) rx fun s' I' => ⟨.bl _, H, I', rfl, ?_⟩
      rw [findD_some k ek rr]
      exact a
    | _ => cases e
  | notin =>
    simp only [cmpPV, Option.map_eq_some_iff] at e
    obtain ⟨r', e, e3⟩ := e
    subst e3
    cases kq with
    | @lst a2 vs2 ys s2 r2 =>
      simp only [inOf] at e
      split at e
      case isFalse => cases e
      case isTrue hl =>
        injection e with e
        subst e
        rw [Bool.and_eq_true] at hl
        refine L2.op_notInD hu pins s σ H _ _ v u Q I rx ry ⟨toD p, toDs ys, kp.dp st.sub hl.1, dp_list st.sub s2.l r2 hl.2, shaped_of hl.1, shaped_ofs hl.2, ?_⟩
        rw [any_toD hl.1 hl.2]
        exact a
    | @tup a2 vs2 ys s2 r2 =>
      simp only [inOf] at e
      split at e
      case isFalse => cases e
      case isTrue hl =>
        injection e with e
        subst e
        rw [Bool.and_eq_true] at hl
        cases ry
        exact in_tup (neg := true) hu st.sub I rx kp s2 r2 hl.1 hl.2 a
    | str z =>
      simp only [inOf] at e
      split at e
      case h_2 => cases e
      case h_1 c =>
        injection e with e
        subst e
        cases kp
        refine op_notIn_sign pins s σ H _ _ v u Q I rx ry ⟨c, toS z, rfl, rfl, ?_⟩
        have e2 : decide (c ∈ (toS z).cps.toList) = z.any fun d => d == c := by
          rw [Bool.eq_iff_iff]
          simp [toS, List.any_eq_true]
        rw [e2]; exact a
    | @dct ad kvs ks xs hd ek rr =>
      simp only [inOf, Option.map_eq_some_iff] at e
      obtain ⟨k, hk, e⟩ := e
      subst e
      have := kyOf_V kp hk
      subst this
      cases ry
      refine d_notIn (by omega) I (dget_rd hd) rx fun s' I' => ⟨.bl _, H, I', rfl, ?_⟩
      rw [findD_some k ek rr]
      exact a
    | _ => cases e
end
end Mn
end

section
set_option Elab.async false
set_option linter.all false
set_option autoImplicit false
set_option maxHeartbeats 1000000
/-! MnOps2: truth, places, slices, functions of Python's own. -/
namespace Mn
open PySem PySem.Spec PyProof.Rows L2

section
variable {K : Frag} {g : Gh} {H : Hp} {S : Sto}
theorem emp_len {α β : Type} {xs : List α} {ys : List β} (h : xs.length = ys.length) : (!xs.isEmpty) = !ys.isEmpty := by
  cases xs <;> cases ys <;> simp at h ⊢
theorem lk_tru {v : V} {p : PV} {b : Bool} (h : Lk K g H v p) (e : truPV p = some b) : TruV K v H b := by
  cases h with
  | non => simp only [truPV, Option.some.injEq] at e; exact e.symm
  | bl k => simp only [truPV, Option.some.injEq] at e; exact e.symm
  | int i => simp only [truPV, Option.some.injEq] at e; exact e.symm
  | str x =>
    simp only [truPV] at e
    split at e
    case isFalse => cases e
    case isTrue hl =>
      injection e with e
      refine ⟨by rw [len_toS, line_L]; exact hl, ?_⟩
      rw [len_toS, ← e]
      cases x <;> simp
      omega
  | tup s r =>
    simp only [truPV, Option.some.injEq] at e
    exact .inr (.inl ⟨_, s, by rw [← e, emp_len r.length]⟩)
  | lst s r =>
    simp only [truPV, Option.some.injEq] at e
    exact .inl ⟨_, s.l, by rw [← e, emp_len r.length]⟩
  | ref _ => simp [truPV] at e
  | dct _ _ _ => simp [truPV] at e
theorem at_rps {vs : List V} {xs : List PV} {i : Int} {p : PV} (r : Rps K g vs xs) (e : atPV xs i = some p) : ∃ v, atI vs i = some v ∧ Rp K g v p := by
  unfold atPV at e
  cases q : ixOf xs.length i with
  | none => rw [q] at e; cases e
  | some j =>
    rw [q] at e
    obtain ⟨v, h1, h2⟩ := r.get (show xs[j]? = some p from e)
    refine ⟨v, ?_, h2⟩
    unfold atI
    rw [show ixN vs.length i = some j by rw [r.length]; exact q]
    exact h1
end
def RI (X : Cx) (op : PV → PV → Option PV) : R2 := fun x y H Q => ∃ g S p q r, StR X.K g H S ∧ Lk X.K g H x p ∧ Rp X.K g y q ∧ op p q = some r ∧ Aft X.K g H S r Q
def RSl (X : Cx) : V → Option Int → Option Int → Hp → VK → Prop := fun x lo hi H Q => ∃ g S p r, StR X.K g H S ∧ RdO X.K g H x p ∧ slPV p lo hi = some r ∧ Aft X.K g H S r Q
section
variable {X : Cx}
theorem ix_dct : IxR X (fun x y H Q => ∃ a v, x = .ref a ∧ DGet H a y (some v) ∧ X.A.units + 1 < cLine ∧ Q v H) := by
  intro value slice pins s σ H x y v u Q I rx ry h hs
  obtain ⟨a, w, rfl, g, hu, q⟩ := h
  obtain rfl : v = Value.ref a := rx
  have hT := dict_typeIs I g
  unfold subscriptTail
  refine wpAny_bind ?_
  rw [getitemInPython_of_ne hT.not_modules]
  refine wpAny_bind (wpAny_specialOf hT PySem.F.slot_dict_getitem.lookup ?_)
  have fin : wpAny (model X.prog X.w) X.A (subscripted slice false (.ref a) u) (fun r s₃ => wpAny (model X.prog X.w) X.A (letTemporaryGo value (.ref a) r >>= fun _ => pure r) (EP X pins σ Q) X.xe s₃) X.xe s := by
    rw [hs]
    exact wpAny_operating (d_getItem hu I g ry fun w' s3 I3 rw' => wpAny_bind (wpAny_letTemporaryGo (wpAny_pure ⟨w, H, I3, rw', q⟩)))
  first
    | exact wpAny_pure (wpAny_bind fin)
    | exact wpAny_bind (wpAny_pure (wpAny_bind fin))
    | exact wpAny_bind fin
theorem op_ixp (hu : X.A.units + 65 < cLine) : IxR X (RI X ixPV) := by
  intro value slice pins s σ H x y v u Q I rx ry h hs
  obtain ⟨g, S, p, q, r, st, kp, kq, e, a⟩ := h
  cases kq with
  | int i =>
    cases kp with
    | tup s1 r1 =>
      obtain ⟨w, e1, e2⟩ := at_rps r1 e
      exact ix_seq value slice pins s σ H _ _ v u Q I rx ry (.inr (.inl ⟨_, _, i, w, rfl, rfl, s1, e1, a.here st e2⟩)) hs
    | lst s1 r1 =>
      obtain ⟨w, e1, e2⟩ := at_rps r1 e
      exact ix_seq value slice pins s σ H _ _ v u Q I rx ry (.inl ⟨_, _, i, w, rfl, rfl, s1.l, e1, a.here st e2⟩) hs
    | str z =>
      simp only [ixPV] at e
      split at e
      case isFalse => cases e
      case isTrue hl =>
        simp only [Option.map_eq_some_iff] at e
        obtain ⟨c, e1, e2⟩ := e
        subst e2
        exact ix_seq value slice pins s σ H _ _ v u Q I rx ry (.inr (.inr ⟨_, i, c, rfl, rfl, by rw [len_toS, line_L]; exact hl, e1, a.here st (.str [c])⟩)) hs
    | dct s1 r0 r1 =>
      simp only [ixPV, kyOf, Option.bind_some] at e
      obtain ⟨w, h1, h2⟩ := (findD_val (.i i) r0 r1).1 _ e
      refine ix_dct value slice pins s σ H _ _ v u Q I rx ry ⟨_, w, rfl, ?_, by omega, a.here st h2⟩ hs
      rw [← h1]
      exact dget_rd (k := kyK (.i i)) s1
    | _ => simp [ixPV] at e
  | str x =>
    cases kp with
    | dct s1 r0 r1 =>
      simp only [ixPV, kyOf, Option.bind_some] at e
      obtain ⟨w, h1, h2⟩ := (findD_val (.s x) r0 r1).1 _ e
      refine ix_dct value slice pins s σ H _ _ v u Q I rx ry ⟨_, w, rfl, ?_, by omega, a.here st h2⟩ hs
      rw [← h1]
      exact dget_rd (k := kyK (.s x)) s1
    | _ => simp [ixPV] at e
  | _ => cases kp <;> simp [ixPV, kyOf] at e
theorem cutS_whole {α : Type} {xs : List α} {lo hi : Option Int} (h1 : slB xs.length 0 lo = 0) (h2 : slB xs.length xs.length hi = xs.length) : cutS xs lo hi = xs := by
  unfold cutS
  rw [h1, h2, Nat.sub_zero, List.drop_zero, List.take_length]
theorem slB_eq (n d : Nat) (o : Option Int) : slB n d o = HT.sIx n d o := by cases o <;> rfl
theorem Rps.cut {K : Frag} {g : Gh} {vs : List V} {xs : List PV} (r : Rps K g vs xs) (lo hi : Option Int) : Rps K g (cutV vs lo hi) (cutS xs lo hi) := by
  unfold cutV cutS
  rw [slB_eq, slB_eq, r.length]
  exact (r.drop _).take _
theorem op_slp : SlR X (RSl X) := by
  intro pins s σ H x v vl vu lo hi sl Q I rx hs pl pu h
  obtain ⟨g, S, p, r, st, rp, e, a⟩ := h
  have kp := rp.lk0 st
  cases kp with
  | tup s1 r1 =>
    simp only [slPV, Option.some.injEq] at e
    subst e
    refine sl_tupA pins s σ H _ v vl vu lo hi sl Q I rx hs pl pu ⟨_, _, rfl, s1, fun hw => ?_, fun _ p hp => a.tup st (r1.cut lo hi) hp⟩
    rw [r1.length, ← slB_eq, ← slB_eq] at hw
    rw [cutS_whole hw.1 hw.2] at a
    rcases rp with rp | ⟨_, m, _, e2, _⟩
    · exact a.here st rp
    · cases m <;> cases e2
  | str z =>
    simp only [slPV] at e
    split at e
    case isFalse => cases e
    case isTrue hl =>
      injection e with e
      subst e
      refine sl_str pins s σ H _ v vl vu lo hi sl Q I rx hs pl pu ⟨_, rfl, by rw [len_toS, line_L]; exact hl, ?_⟩
      have e3 : L2.cutS (toS z) lo hi = toS (cutS z lo hi) := by
        unfold L2.cutS
        simp only [slB_eq, cutS, toS, Str.length, List.size_toArray]
      rw [e3]
      exact a.here st (.str _)
  | _ => simp [slPV] at e

/-! ### isinstance -/
def tyN : Ty → String
  | .int => "int" | .bool => "bool" | .str => "str" | .tuple => "tuple" | .list => "list"
theorem lk_ty {K : Frag} {g : Gh} {H : Hp} {v : V} {p : PV} (h : Lk K g H v p) (hr : ∀ n, p ≠ .ref n) (hr2 : ∀ ks xs, p ≠ .dct ks xs) : ∃ t, TyX K H v (.type t) ∧ ∀ ty, kitB t (tyN ty) = some (isT ty p) := by
  cases h with
  | non => exact ⟨_, .base .non, fun ty => by cases ty <;> decide +kernel⟩
  | bl b => exact ⟨_, .base (.bl b), fun ty => by cases ty <;> simp only [isT] <;> decide +kernel⟩
  | int i => exact ⟨_, .base (.int i), fun ty => by cases ty <;> simp only [isT] <;> decide +kernel⟩
  | str x => exact ⟨_, .base (.str _), fun ty => by cases ty <;> simp only [isT] <;> decide +kernel⟩
  | tup s r =>
    refine ⟨"tuple", ?_, fun ty => by cases ty <;> simp only [isT] <;> decide +kernel⟩
    rcases s with (s | ⟨o, s⟩) | ⟨o, its, n, h1, h2, _⟩
    · exact .base (.tup s)
    · exact .fTuple s
    · exact .kTuple h1 h2
  | lst s r =>
    refine ⟨"list", ?_, fun ty => by cases ty <;> simp only [isT] <;> decide +kernel⟩
    rcases s.l with (s | ⟨o, s⟩) | ⟨o, its, n, h1, h2, _⟩
    · exact .base (.lst s)
    · exact .base (.frz s)
    · exact .kList h1 h2
  | ref _ => exact absurd rfl (hr _)
  | dct _ _ _ => exact absurd rfl (hr2 _ _)
def RIsi (X : Cx) (ty : Ty) : List V → Hp → VK → Prop := fun xs H Q => ∃ g p v, xs = [v, .ty (tyN ty)] ∧ Lk X.K g H v p ∧ (∀ n, p ≠ .ref n) ∧ (∀ ks xs, p ≠ .dct ks xs) ∧ Q (.bl (isT ty p)) H
theorem call_isip (ty : Ty) : CallR X (.builtin "isinstance") (RIsi X ty) := by
  intro pins s σ H xs us Q I r h
  obtain ⟨g, p, v, rfl, kp, hr, hr2, q⟩ := h
  obtain ⟨t, h1, h2⟩ := lk_ty kp hr hr2
  exact call_isi pins s σ H _ us Q I r ⟨v, .ty (tyN ty), _, _, _, rfl, .ty _, h1, kit_ty (h2 ty), q⟩

/-! ### functions of Python's own -/
theorem max_ge : ∀ (r : List Int) (m : Int), m ≤ maxI m r ∧ (∀ y ∈ r, y ≤ maxI m r) ∧ (maxI m r = m ∨ maxI m r ∈ r)
  | [], m => by simp [maxI]
  | x :: r, m => by
    simp only [maxI]
    obtain ⟨h1, h2, h3⟩ := max_ge r (if m < x then x else m)
    have h4 : m ≤ (if m < x then x else m) ∧ x ≤ (if m < x then x else m) := by split <;> omega
    refine ⟨by omega, fun y hy => ?_, ?_⟩
    · rcases List.mem_cons.mp hy with e | hy
      · subst e; omega
      · exact h2 y hy
    · rcases h3 with h3 | h3
      · by_cases c : m < x
        · rw [if_pos c] at h3 ⊢; exact .inr (by rw [h3]; exact List.mem_cons_self)
        · rw [if_neg c] at h3 ⊢; exact .inl h3
      · exact .inr (List.mem_cons_of_mem _ h3)
theorem min_le : ∀ (r : List Int) (m : Int), minI m r ≤ m ∧ (∀ y ∈ r, minI m r ≤ y) ∧ (minI m r = m ∨ minI m r ∈ r)
  | [], m => by simp [minI]
  | x :: r, m => by
    simp only [minI]
    obtain ⟨h1, h2, h3⟩ := min_le r (if x < m then x else m)
    have h4 : (if x < m then x else m) ≤ m ∧ (if x < m then x else m) ≤ x := by split <;> omega
    refine ⟨by omega, fun y hy => ?_, ?_⟩
    · rcases List.mem_cons.mp hy with e | hy
      · subst e; omega
      · exact h2 y hy
    · rcases h3 with h3 | h3
      · by_cases c : x < m
        · rw [if_pos c] at h3 ⊢; exact .inr (by rw [h3]; exact List.mem_cons_self)
        · rw [if_neg c] at h3 ⊢; exact .inl h3
      · exact .inr (List.mem_cons_of_mem _ h3)
def blV : Bl → Value
  | .len => .builtin "len" | .abs => .builtin "abs" | .int => .type "int" | .ord => .builtin "ord" | .sum => .builtin "sum" | .all => .builtin "all" | .any => .builtin "any"
  | .max => .builtin "max" | .min => .builtin "min" | .tuple => .type "tuple" | .repr => .builtin "repr" | .str => .type "str"
def RBl (X : Cx) (f : Bl) : List V → Hp → VK → Prop := fun vs H Q => ∃ g S ps r, StR X.K g H S ∧ RdOs X.K g H vs ps ∧ bltPV f (ps.map (dr S)) = some r ∧ Aft X.K g H S r Q
theorem dr_tup {S : Sto} {p : PV} {xs : List PV} (h : dr S p = .tup xs) : p = .tup xs := by
  unfold dr at h
  split at h
  · split at h <;> cases h
  · exact h
/-- the one operand -/
theorem one_of {K : Frag} {g : Gh} {H : Hp} {S : Sto} {vs : List V} {ps : List PV} {q : PV} (st : StR K g H S) (h : RdOs K g H vs ps) (e : ps.map (dr S) = [q]) : ∃ v p, vs = [v] ∧ ps = [p] ∧ RdO K g H v p ∧ dr S p = q ∧ Lk K g H v q := by
  cases h with
  | nil => cases e
  | cons a b =>
    cases b with
    | nil =>
      simp only [List.map_cons, List.map_nil, List.cons.injEq, and_true] at e
      exact ⟨_, _, rfl, rfl, a, e, e ▸ a.lk st⟩
    | cons _ _ => simp at e
theorem two_of {K : Frag} {g : Gh} {H : Hp} {S : Sto} {vs : List V} {ps : List PV} {q1 q2 : PV} (st : StR K g H S) (h : RdOs K g H vs ps) (e : ps.map (dr S) = [q1, q2]) : ∃ v1 v2, vs = [v1, v2] ∧ Lk K g H v1 q1 ∧ Lk K g H v2 q2 := by
  cases h with
  | nil => cases e
  | cons a b =>
    cases b with
    | nil => simp at e
    | cons a2 b2 =>
      cases b2 with
      | nil =>
        simp only [List.map_cons, List.map_nil, List.cons.injEq, and_true] at e
        exact ⟨_, _, rfl, e.1 ▸ a.lk st, e.2 ▸ a2.lk st⟩
      | cons _ _ => simp at e
mutual
theorem noDict_toD : ∀ p : PV, (toD p).hasDict = false
  | .non => by simp only [toD, PyData.hasDict]
  | .bl _ => by simp only [toD, PyData.hasDict]
  | .int _ => by simp only [toD, PyData.hasDict]
  | .str _ => by simp only [toD, PyData.hasDict]
  | .tup xs => by simp only [toD, PyData.hasDict]; exact noDicts_toD xs
  | .lst xs => by simp only [toD, PyData.hasDict]; exact noDicts_toD xs
  | .ref _ => by simp only [toD, PyData.hasDict]
  | .fn _ => by simp only [toD, PyData.hasDict]
  | .dct _ _ => by simp only [toD, PyData.hasDict]
theorem noDicts_toD : ∀ ps : List PV, PyData.hasDictAll (toDs ps) = false
  | [] => by simp only [toDs, PyData.hasDictAll]
  | p :: ps => by simp only [toDs, PyData.hasDictAll, noDict_toD p, noDicts_toD ps, Bool.or_false]
end
mutual
theorem depth_toD : ∀ (p : PV) (n : Nat), flat n p = true → (toD p).depth ≤ n
  | .non, n, _ => by simp only [toD, PyData.depth]; omega
  | .bl _, n, _ => by simp only [toD, PyData.depth]; omega
  | .int _, n, _ => by simp only [toD, PyData.depth]; omega
  | .str _, n, _ => by simp only [toD, PyData.depth]; omega
  | .tup xs, 0, h => by simp [flat] at h
  | .tup xs, n + 1, h => by
    simp only [flat] at h
    have := depths_toD xs n h
    simp only [toD, PyData.depth]; omega
  | .lst xs, 0, h => by simp [flat] at h
  | .lst xs, n + 1, h => by
    simp only [flat] at h
    have := depths_toD xs n h
    simp only [toD, PyData.depth]; omega
  | .ref _, n, h => by simp [flat] at h
  | .fn _, n, h => by simp [flat] at h
  | .dct _ _, n, h => by simp [flat] at h
theorem depths_toD : ∀ (ps : List PV) (n : Nat), flats n ps = true → PyData.depthAll (toDs ps) ≤ n
  | [], n, _ => by simp only [toDs, PyData.depthAll]; omega
  | p :: ps, n, h => by
    simp only [flats, Bool.and_eq_true] at h
    have h1 := depth_toD p n h.1
    have h2 := depths_toD ps n h.2
    simp only [toDs, PyData.depthAll]
    omega
end
theorem repr_val {pins : List (Addr × Obj)} {σ : L2.St} {s : Shared} {H : Hp} {v : V} {us : List Value} {p : PV} {Q : VK} {g : Gh} (hs : ∀ a o, g.G a = some o → H a = some o) (hu : X.A.units + 65 < cLine) (gd : X.A.guards = some []) (I : Inv X pins σ H s) (rx : Vals [v] us)
    (k : Lk X.K g H v p) (h1 : flat 60 p = true) (h2 : PyData.showable (toD p) = true) (h3 : (shw p).length ≤ L) (q : Q (.str (shw p)) H) : wpAny (model X.prog X.w) X.A (call (.builtin "repr") us) (EP X pins σ Q) X.xe s := by
  cases rx with
  | cons ru rt =>
    rename_i u ut
    cases rt
    have hz : (PyData.shown (toD p)).length ≤ sizeLine := by rw [line_L]; exact h3
    cases k with
    | non =>
      cases ru
      refine PySem.P.repr_of_none ⟨.str _, H, I.tok _, ⟨_, rfl⟩, ?_⟩
      simpa only [shw, toD, PyData.shown] using q
    | bl b =>
      cases ru
      refine PySem.P.repr_of_bool ⟨.str _, H, I.tok _, ⟨_, rfl⟩, ?_⟩
      simpa only [shw, toD, PyData.shown] using q
    | int i =>
      obtain ⟨t, rfl⟩ := ru
      refine PySem.P.repr_of_int (by simpa only [toD, PyData.showable, decide_eq_true_eq] using h2) ⟨.str _, H, I.tok _, ⟨_, rfl⟩, ?_⟩
      simpa only [shw, toD, PyData.shown] using q
    | str x =>
      obtain ⟨t, rfl⟩ := ru
      refine PySem.P.repr_of_str (hsz := by simpa only [toD, PyData.shown] using hz) ⟨.str _, H, I.tok _, ⟨_, rfl⟩, ?_⟩
      simpa only [shw, toD, PyData.shown] using q
    | tup s1 r1 =>
      have k : Lk X.K g H _ (.tup _) := .tup s1 r1
      have dd := depth_toD _ 60 h1
      obtain rfl := ru
      obtain ⟨as, rr⟩ := Dp.reads I _ _ _ (Lk.dp hs h1 k) rfl
      exact repr_of_reads' rr h2 (PyData.noDict_hsm (noDict_toD _)) gd (by omega) (fun _ _ e => e) (fun h' u tk hk => ⟨.str _, H, I.kept hk, ⟨_, rfl⟩, q⟩) hz
    | lst s1 r1 =>
      have k : Lk X.K g H _ (.lst _) := .lst s1 r1
      have dd := depth_toD _ 60 h1
      obtain rfl := ru
      obtain ⟨as, rr⟩ := Dp.reads I _ _ _ (Lk.dp hs h1 k) rfl
      exact repr_of_reads' rr h2 (PyData.noDict_hsm (noDict_toD _)) gd (by omega) (fun _ _ e => e) (fun h' u tk hk => ⟨.str _, H, I.kept hk, ⟨_, rfl⟩, q⟩) hz
    | ref h => simp [flat] at h1
    | dct _ _ _ => simp [flat] at h1
theorem call_bl (hc : X.calm = true) (hu : X.A.units + 65 < cLine) (gd : X.A.guards = some []) (f : Bl) : CallR X (blV f) (RBl X f) := by
  intro pins s σ H vs us Q I rx h
  obtain ⟨g, S, ps, r, st, rs, e, a⟩ := h
  generalize hq : ps.map (dr S) = qs at e
  cases f with
  | len =>
    simp only [bltPV, lenPV] at e
    split at e
    case h_1 x =>
      split at e
      case isFalse => cases e
      case isTrue hl =>
        injection e with e; subst e
        obtain ⟨v, p, rfl, rfl, _, _, k⟩ := one_of st rs hq
        cases k
        refine call_len_str pins s σ H _ us Q I rx ⟨_, rfl, by rw [len_toS, line_L]; exact hl, ?_⟩
        rw [len_toS]
        exact a.here st (.int _)
    case h_2 xs =>
      obtain ⟨v, p, rfl, rfl, _, _, k⟩ := one_of st rs hq
      cases k with
      | tup s1 r1 =>
        injection e with e; subst e
        refine call_len_seq pins s σ H _ us Q I rx ⟨_, _, rfl, .inr s1, ?_⟩
        rw [r1.length]
        exact a.here st (.int _)
    case h_3 xs =>
      obtain ⟨v, p, rfl, rfl, _, _, k⟩ := one_of st rs hq
      cases k with
      | lst s1 r1 =>
        refine call_len_seq pins s σ H _ us Q I rx ⟨_, _, rfl, .inl s1.l, ?_⟩
        injection e with e; subst e
        rw [r1.length]
        exact a.here st (.int _)
    case h_4 ks xs =>
      obtain ⟨v, p, rfl, rfl, _, _, k⟩ := one_of st rs hq
      cases k with
      | dct h1 h2 h3 =>
        refine call_lenR pins s σ H _ us Q I rx ⟨_, _, rfl, h1, ?_⟩
        injection e with e; subst e
        have := congrArg List.length h2
        simp only [List.length_map] at this
        rw [this]
        exact a.here st (.int _)
    case h_5 => cases e
  | str =>
    simp only [bltPV, strPV] at e
    split at e
    case h_1 i =>
      split at e
      case isFalse => cases e
      case isTrue hl =>
        injection e with e; subst e
        obtain ⟨v, p, rfl, rfl, _, _, k⟩ := one_of st rs hq
        cases k
        refine call_str_int pins s σ H _ us Q I rx ⟨_, rfl, ?_, ?_⟩
        · by_cases h0 : i.natAbs = 0
          · rw [h0]; decide
          · have := (Nat.log2_lt (k := 200) h0).mpr hl
            omega
        · exact a.here st (.str (strI i))
    case h_2 x =>
      injection e with e; subst e
      obtain ⟨v, p, rfl, rfl, _, _, k⟩ := one_of st rs hq
      cases k
      exact SkE.call_str_str pins s σ H _ us Q I rx ⟨_, rfl, a.here st (.str _)⟩
    case h_3 => cases e
  | abs =>
    simp only [bltPV, absPV] at e
    split at e <;> (first | (cases e; done) | skip) <;> (try (injection e with e; subst e))
    obtain ⟨v, p, rfl, rfl, _, _, k⟩ := one_of st rs hq
    cases k
    exact call_abs pins s σ H _ us Q I rx ⟨_, rfl, a.here st (.int _)⟩
  | int =>
    simp only [bltPV, intPV] at e
    split at e <;> (first | (cases e; done) | skip) <;> (try (injection e with e; subst e))
    · obtain ⟨v, p, rfl, rfl, _, _, k⟩ := one_of st rs hq
      cases k
      exact call_int1 pins s σ H _ us Q I rx (.inl ⟨_, rfl, a.here st (.int _)⟩)
    · obtain ⟨v, p, rfl, rfl, _, _, k⟩ := one_of st rs hq
      cases k
      exact call_int1 pins s σ H _ us Q I rx (.inr ⟨_, rfl, a.here st (.int _)⟩)
  | ord =>
    simp only [bltPV, ordPV] at e
    split at e <;> (first | (cases e; done) | skip) <;> (try (injection e with e; subst e))
    obtain ⟨v, p, rfl, rfl, _, _, k⟩ := one_of st rs hq
    cases k
    exact call_ord pins s σ H _ us Q I rx ⟨_, rfl, rfl, a.here st (.int _)⟩
  | sum =>
    simp only [bltPV, sumPV] at e
    split at e <;> (first | (cases e; done) | skip) <;> (try (injection e with e; subst e))
    simp only [Option.map_eq_some_iff] at e
    obtain ⟨ns, e1, e2⟩ := e
    subst e2
    obtain ⟨v, p, rfl, rfl, _, _, k⟩ := one_of st rs hq
    cases k with
    | lst s1 r1 => exact cr_sum hc pins s σ H _ us Q I rx ⟨_, ns, rfl, by rw [← r1.toI e1]; exact s1.l, a.here st (.int _)⟩
  | all =>
    simp only [bltPV, allPV] at e
    split at e <;> (first | (cases e; done) | skip) <;> (try (injection e with e; subst e))
    simp only [Option.map_eq_some_iff] at e
    obtain ⟨ns, e1, e2⟩ := e
    subst e2
    obtain ⟨v, p, rfl, rfl, _, _, k⟩ := one_of st rs hq
    cases k with
    | lst s1 r1 => exact cr_all hc pins s σ H _ us Q I rx ⟨_, ns, rfl, by rw [← r1.toB e1]; exact s1.l, a.here st (.bl _)⟩
  | any =>
    simp only [bltPV, anyPV] at e
    split at e <;> (first | (cases e; done) | skip) <;> (try (injection e with e; subst e))
    simp only [Option.map_eq_some_iff] at e
    obtain ⟨ns, e1, e2⟩ := e
    subst e2
    obtain ⟨v, p, rfl, rfl, _, _, k⟩ := one_of st rs hq
    cases k with
    | lst s1 r1 => exact cr_any hc pins s σ H _ us Q I rx ⟨_, ns, rfl, by rw [← r1.toB e1]; exact s1.l, a.here st (.bl _)⟩
  | max =>
    simp only [bltPV, maxPV] at e
    split at e <;> (first | (cases e; done) | skip) <;> (try (injection e with e; subst e))
    · obtain ⟨v1, v2, rfl, k1, k2⟩ := two_of st rs hq
      cases k1
      cases k2
      exact call_max2 hc pins s σ H _ us Q I rx ⟨_, _, rfl, a.here st (.int _)⟩
    · simp only [Option.bind_eq_some_iff] at e
      obtain ⟨ns, e1, e2⟩ := e
      cases ns with
      | nil => cases e2
      | cons n t =>
        injection e2 with e2; subst e2
        obtain ⟨v, p, rfl, rfl, _, _, k⟩ := one_of st rs hq
        cases k with
        | lst s1 r1 =>
          refine cr_max hc pins s σ H _ us Q I rx ⟨_, n :: t, rfl, by rw [← r1.toI e1]; exact s1.l, by simp, fun m hm hu => ?_⟩
          obtain ⟨h1, h2, h3⟩ := max_ge t n
          have : m = maxI n t := by
            have le : maxI n t ≤ m := hu _ (by rcases h3 with h3 | h3; rw [h3]; exact List.mem_cons_self; exact List.mem_cons_of_mem _ h3)
            rcases List.mem_cons.mp hm with e | hm
            · omega
            · have := h2 m hm; omega
          rw [this]
          exact a.here st (.int _)
  | min =>
    simp only [bltPV, minPV] at e
    split at e <;> (first | (cases e; done) | skip) <;> (try (injection e with e; subst e))
    · obtain ⟨v1, v2, rfl, k1, k2⟩ := two_of st rs hq
      cases k1
      cases k2
      exact call_min2 hc pins s σ H _ us Q I rx ⟨_, _, rfl, a.here st (.int _)⟩
    · simp only [Option.bind_eq_some_iff] at e
      obtain ⟨ns, e1, e2⟩ := e
      cases ns with
      | nil => cases e2
      | cons n t =>
        injection e2 with e2; subst e2
        obtain ⟨v, p, rfl, rfl, _, _, k⟩ := one_of st rs hq
        cases k with
        | lst s1 r1 =>
          refine cr_min hc pins s σ H _ us Q I rx ⟨_, n :: t, rfl, by rw [← r1.toI e1]; exact s1.l, by simp, fun m hm hu => ?_⟩
          obtain ⟨h1, h2, h3⟩ := min_le t n
          have : m = minI n t := by
            have le : m ≤ minI n t := hu _ (by rcases h3 with h3 | h3; rw [h3]; exact List.mem_cons_self; exact List.mem_cons_of_mem _ h3)
            rcases List.mem_cons.mp hm with e | hm
            · omega
            · have := h2 m hm; omega
          rw [this]
          exact a.here st (.int _)
  | tuple =>
    simp only [bltPV, tuplePV] at e
    split at e <;> (first | (cases e; done) | skip) <;> (try (injection e with e; subst e))
    · obtain ⟨v, p, rfl, rfl, rp, hp, k⟩ := one_of st rs hq
      have := dr_tup hp
      subst this
      cases k with
      | tup s1 r1 =>
        refine call_tuple_of pins s σ H _ us Q I rx ⟨_, _, rfl, .inr ⟨s1, ?_⟩⟩
        rcases rp with rp | ⟨_, m, _, e2, _⟩
        · exact a.here st rp
        · cases m <;> cases e2
    · obtain ⟨v, p, rfl, rfl, _, _, k⟩ := one_of st rs hq
      cases k with
      | lst s1 r1 => exact call_tuple_of pins s σ H _ us Q I rx ⟨_, _, rfl, .inl ⟨s1.l, fun l hl => a.tup st r1 hl⟩⟩
  | repr =>
    simp only [bltPV, reprPV] at e
    split at e <;> (first | (cases e; done) | skip)
    rename_i q
    split at e
    case isFalse => cases e
    case isTrue hh =>
      simp only [Bool.and_eq_true] at hh
      obtain ⟨⟨h1, h2⟩, h3⟩ := hh
      injection e with e; subst e
      obtain ⟨v, p, rfl, rfl, _, _, k⟩ := one_of st rs hq
      exact repr_val st.sub hu gd I rx k h1 h2 (Nat.le_of_ble_eq_true h3) (a.here st (.str _))

/-! ### methods -/
end
end Mn
end

section
set_option Elab.async false
set_option linter.all false
set_option autoImplicit false
set_option maxHeartbeats 2000000
/-! MnSound: a text of Python is held against a term of MnCore; what the term's evaluator says, the machine does. -/
namespace Mn
open PySem PySem.Spec PyProof.Rows L2

/-! ### the look -/
def eqL : List Nat → List Nat → Bool
  | [], [] => true
  | a :: x, b :: y => Nat.beq a b && eqL x y
  | _, _ => false
theorem eqL_ok : ∀ {x y : List Nat}, eqL x y = true → x = y
  | [], [], _ => rfl
  | [], _ :: _, h => by cases h
  | _ :: _, [], h => by cases h
  | a :: x, b :: y, h => by
    simp only [eqL, Bool.and_eq_true] at h
    rw [Nat.eq_of_beq_eq_true h.1, eqL_ok h.2]
def eqS (x y : Str) : Bool := eqL x.cps.toList y.cps.toList
theorem eqS_ok {x y : Str} (h : eqS x y = true) : x = y := by
  obtain ⟨⟨x⟩⟩ := x
  obtain ⟨⟨y⟩⟩ := y
  have : x = y := eqL_ok h
  rw [this]
/-- what is known of a text: the slots, the constants, the defs, the names that stay Python's own -/
structure Dat where
  N : List Str
  cn : List Str
  fnn : List Str
  free : List Str
def look (sc : List (Str × NameKind)) (x : Str) : Option NameKind := sc.lookup x
def visC (sc : List (Str × NameKind)) (x : Str) : Bool := match sc.lookup x with
  | some .local => true | some .cell => true | some .free => true | _ => false
def gloC (sc : List (Str × NameKind)) (x : Str) : Bool := match sc.lookup x with
  | some .globalImplicit => true | _ => false
def okN (x : Str) : Bool := !(x == ("__debug__" : Str)) && !(x == ("__classdict__" : Str)) && !(x == ("__name__" : Str))
def atN (N : List Str) (i : Nat) (x : Str) : Bool := match N[i]? with
  | some y => eqS y x
  | none => false
theorem atN_ok {N : List Str} {i : Nat} {x : Str} (h : atN N i x = true) : N[i]? = some x := by
  unfold atN at h
  split at h
  case h_1 y e => rw [e, eqS_ok h]
  case h_2 => cases h
def freeC (D : Dat) (sc : List (Str × NameKind)) (x : Str) : Bool := gloC sc x && D.free.any fun y => eqS y x
/-- an expression that stands in an argument list -/
def noStar : Expr → Bool
  | .Starred _ _ => false
  | _ => true
/-- whose test is its value's truth -/
def plainT : Expr → Bool
  | .Name _ _ => true
  | .Call _ _ _ _ => true
  | .Subscript _ _ _ => true
  | .Constant _ _ _ => true
  | _ => false
def plainX : Expr → Bool
  | .Slice _ _ _ _ => false
  | _ => true
def tupP : Expr → Bool
  | .Tuple _ _ _ => true
  | _ => false
theorem tupP_ok {e : Expr} (h : tupP e = true) : ∃ es k p, e = .Tuple es k p := by
  cases e <;> simp [tupP] at h
  exact ⟨_, _, _, rfl⟩
def noSet : Expr → Bool
  | .Set _ _ _ => false
  | _ => true
def noCall0 : Expr → Bool
  | .Call _ [] _ _ => false
  | _ => true
def blN : Bl → Str
  | .len => "len" | .abs => "abs" | .int => "int" | .ord => "ord" | .sum => "sum" | .all => "all" | .any => "any" | .max => "max" | .min => "min" | .tuple => "tuple" | .repr => "repr" | .str => "str"
def mtN : Mt → Str
  | .join => "join" | .count => "count" | .index => "index" | .split => "split"
def tyS : Ty → Str
  | .int => "int" | .bool => "bool" | .str => "str" | .tuple => "tuple" | .list => "list"
def relN (names sc : List (Str × NameKind)) : List (Str × NameKind) := names.map fun (n, k) => if (k == .free && sc.lookup n == some .cell) then (n, .cell) else (n, k)
def ownN (N : List Str) : List Nat → List (Str × Nat)
  | [] => []
  | i :: r => (N.getD i "", i) :: ownN N r

def bopB (o : Bo) (p : Operator) : Bool := match o, p with
  | .add, .Add => true | .sub, .Sub => true | .mul, .Mult => true | .fdiv, .FloorDiv => true | .mod, .Mod => true | .pow, .Pow => true | _, _ => false
theorem bopB_ok {o : Bo} {p : Operator} (h : bopB o p = true) : bop o = p := by cases o <;> cases p <;> first | rfl | cases h
def copB (o : Co) (p : CmpOp) : Bool := match o, p with
  | .eq, .Eq => true | .ne, .NotEq => true | .lt, .Lt => true | .le, .LtE => true | .gt, .Gt => true | .ge, .GtE => true | .is, .Is => true | .isnot, .IsNot => true | .isin, .In => true | .notin, .NotIn => true | _, _ => false
theorem copB_ok {o : Co} {p : CmpOp} (h : copB o p = true) : cop o = p := by cases o <;> cases p <;> first | rfl | cases h

/-! a target; fc: whether a name's cell is made by this block -/
mutual
def chkTg (N : List Str) (sc : List (Str × NameKind)) (fc : Str → Bool) : Tg → Expr → Bool
  | .nm i, .Name x _ => atN N i x && (match sc.lookup x with | some .local => true | some .cell => fc x | _ => false)
  | .tp ts, .Tuple es _ _ => chkTgs N sc fc ts es
  | _, _ => false
def chkTgs (N : List Str) (sc : List (Str × NameKind)) (fc : Str → Bool) : List Tg → List Expr → Bool
  | [], [] => true
  | t :: ts, e :: es => noStar e && chkTg N sc fc t e && chkTgs N sc fc ts es
  | _, _ => false
end

mutual
def tgSlots : Tg → List Nat
  | .nm i => [i]
  | .tp ts => tgsSlots ts
def tgsSlots : List Tg → List Nat
  | [] => []
  | t :: r => tgSlots t ++ tgsSlots r
end
mutual
def chkE (D : Dat) (sc : List (Str × NameKind)) : E → Expr → Bool
  | .v i, .Name x _ => atN D.N i x && visC sc x && okN x
  | .non, .Constant .none _ _ => true
  | .bl b, .Constant (.bool k) _ _ => b == k
  | .int i, .Constant (.int j) _ _ => decide (i = j)
  | .str x, .Constant (.str y) _ _ => eqL x y.cps.toList
  | .glob g, .Name x _ => atN D.cn g x && gloC sc x && okN x
  | .bin o a b, .BinOp l p r _ => bopB o p && chkO D sc a l && chkO D sc b r
  | .neg a, .UnaryOp .USub e _ => chkE D sc a e
  | .not a, .UnaryOp .Not e _ => chkO D sc a e
  | .cmp o a b, .Compare l [p] [r] _ => copB o p && noSet r && chkO D sc a l && chkO D sc b r
  | .chain o o' a b c, .Compare l [p, p'] [r, q] _ => copB o p && copB o' p' && noSet r && noSet q && chkO D sc a l && chkO D sc b r && chkO D sc c q
  | .and a b, .BoolOp .And (x :: y :: r) pos => chkE D sc a x && (match r with | [] => chkE D sc b y | _ => chkE D sc b (.BoolOp .And (y :: r) pos))
  | .or a b, .BoolOp .Or (x :: y :: r) pos => chkE D sc a x && (match r with | [] => chkE D sc b y | _ => chkE D sc b (.BoolOp .Or (y :: r) pos))
  | .ife t a b, .IfExp c x y _ => chkT D sc t c && chkE D sc a x && chkE D sc b y
  | .tup es, .Tuple xs _ _ => chkEs D sc es xs
  | .fr f, e => chkF D sc f e
  | .new f, e => chkF D sc f e
  | .ix a b, .Subscript x i _ => plainX i && chkO D sc a x && chkE D sc b i
  | .sl a lo hi, .Subscript x (.Slice l h none _) _ => chkO D sc a x && chkB D sc lo l && chkB D sc hi h
  | .call f es, .Call (.Name x _) xs [] _ => atN D.fnn f x && gloC sc x && okN x && chkEs D sc es xs
  | .blt f es, .Call (.Name x _) xs [] _ => eqS x (blN f) && freeC D sc x && !xs.isEmpty && chkOs D sc es xs
  | .met .join o [a], .Call (.Attribute oe m apos) [x] [] cpos => eqS m "join" && (apos.endLine == cpos.line) && noCall0 oe && noStar x && chkO D sc o oe && chkO D sc a x
  | .met .count o [a], .Call (.Attribute oe m apos) [x] [] cpos => eqS m "count" && (apos.endLine == cpos.line) && noCall0 oe && noStar x && chkO D sc o oe && chkO D sc a x
  | .met .index o [a], .Call (.Attribute oe m apos) [x] [] cpos => eqS m "index" && (apos.endLine == cpos.line) && noCall0 oe && noStar x && chkO D sc o oe && chkO D sc a x
  | .get2 o k d, .Call (.Attribute oe m apos) [x, y] [] cpos => eqS m "get" && (apos.endLine == cpos.line) && noCall0 oe && noStar x && noStar y && chkO D sc o oe && chkE D sc k x && chkE D sc d y
  | .lens o, .Call (.Name x _) [.Call (.Name y _) [e] [] _] [] _ => eqS x "len" && freeC D sc x && eqS y "set" && freeC D sc y && noStar e && chkO D sc o e
  | .tupr a, .Call (.Name x _) [.Call (.Name y _) [e] [] _] [] _ => eqS x "tuple" && freeC D sc x && eqS y "range" && freeC D sc y && noStar e && chkE D sc a e
  | .dictp o, .Call (.Name x _) [e] [] _ => eqS x "dict" && freeC D sc x && noStar e && chkO D sc o e
  | .dc own t it cs k v, .DictComp kx vx [⟨tg, iter, ifs, isA⟩] scope _ =>
    decide (isA = 0) && blkC D.N ⟨.function, sc, false, false, []⟩ scope (ownN D.N own) && noSet iter && (tgSlots t).all (fun i => own.contains i) && chkI D sc it tg iter && chkTg D.N (relN scope.names sc) (fun x => scope.names.lookup x == some .cell) t tg &&
      chkTs D (relN scope.names sc) cs ifs && chkE D (relN scope.names sc) k kx && chkE D (relN scope.names sc) v vx
  | .isi a t, .Call (.Name x _) [e, .Name y _] [] _ => eqS x "isinstance" && freeC D sc x && eqS y (tyS t) && freeC D sc y && noStar e && chkE D sc a e
  | _, _ => false
def chkB (D : Dat) (sc : List (Str × NameKind)) : B → Option Expr → Bool
  | .no, none => true
  | .e e, some x => chkE D sc e x
  | _, _ => false
def chkEs (D : Dat) (sc : List (Str × NameKind)) : List E → List Expr → Bool
  | [], [] => true
  | e :: es, x :: xs => noStar x && chkE D sc e x && chkEs D sc es xs
  | _, _ => false
def chkO (D : Dat) (sc : List (Str × NameKind)) : O → Expr → Bool
  | .own i, .Name x _ => atN D.N i x && visC sc x && okN x
  | .e e, x => chkE D sc e x
  | _, _ => false
def chkOs (D : Dat) (sc : List (Str × NameKind)) : List O → List Expr → Bool
  | [], [] => true
  | e :: es, x :: xs => noStar x && chkO D sc e x && chkOs D sc es xs
  | _, _ => false
def chkT (D : Dat) (sc : List (Str × NameKind)) : T → Expr → Bool
  | .and a b, .BoolOp .And (x :: y :: r) pos => chkT D sc a x && (match r with | [] => chkT D sc b y | _ => chkT D sc b (.BoolOp .And (y :: r) pos))
  | .or a b, .BoolOp .Or (x :: y :: r) pos => chkT D sc a x && (match r with | [] => chkT D sc b y | _ => chkT D sc b (.BoolOp .Or (y :: r) pos))
  | .not a, .UnaryOp .Not e _ => chkT D sc a e
  | .cmp o a b, .Compare l [p] [r] _ => copB o p && noSet r && chkO D sc a l && chkO D sc b r
  | .chain o o' a b c, .Compare l [p, p'] [r, q] _ => copB o p && copB o' p' && noSet r && noSet q && chkO D sc a l && chkO D sc b r && chkO D sc c q
  | .tr o, e => plainT e && chkO D sc o e
  | _, _ => false
def chkF (D : Dat) (sc : List (Str × NameKind)) : F → Expr → Bool
  | .lst es, .List xs _ => chkEs D sc es xs
  | .lc own t it cs e, .ListComp elt [⟨tg, iter, ifs, isA⟩] scope _ =>
    decide (isA = 0) && blkC D.N ⟨.function, sc, false, false, []⟩ scope (ownN D.N own) && noSet iter && (tgSlots t).all (fun i => own.contains i) && chkI D sc it tg iter && chkTg D.N (relN scope.names sc) (fun x => scope.names.lookup x == some .cell) t tg &&
      chkTs D (relN scope.names sc) cs ifs && chkE D (relN scope.names sc) e elt
  | .lc2 own own1 t it cs t1 it1 cs1 e, .ListComp elt [⟨tg, iter, ifs, isA⟩, ⟨tg1, iter1, ifs1, isB⟩] scope _ =>
    decide (isA = 0) && decide (isB = 0) && blkC D.N ⟨.function, sc, false, false, []⟩ scope (ownN D.N own) && noSet iter && noSet iter1 && (tgSlots t).all (fun i => own.contains i) && (tgSlots t1).all (fun i => own1.contains i) && own1.all (fun i => own.contains i) &&
      chkI D sc it tg iter && chkTg D.N (relN scope.names sc) (fun x => scope.names.lookup x == some .cell) t tg && chkTs D (relN scope.names sc) cs ifs && chkE D (relN scope.names sc) it1 iter1 &&
      chkTg D.N (relN scope.names sc) (fun x => scope.names.lookup x == some .cell) t1 tg1 && chkTs D (relN scope.names sc) cs1 ifs1 && chkE D (relN scope.names sc) e elt
  | .rep f b, .BinOp l .Mult r _ => chkF D sc f l && chkE D sc b r
  | .callO f es, .Call (.Name x _) xs [] _ => atN D.fnn f x && gloC sc x && okN x && chkEs D sc es xs
  | .list o, .Call (.Name x _) [e] [] _ => eqS x "list" && freeC D sc x && noStar e && chkO D sc o e
  | .cat a b, .BinOp l .Add r _ => chkO D sc a l && chkO D sc b r
  | .slc a lo hi, .Subscript x (.Slice l h none _) _ => chkO D sc a x && chkB D sc lo l && chkB D sc hi h
  | .slr a, .Subscript x (.Slice none none (some (.UnaryOp .USub (.Constant (.int i) _ _) _)) _) _ => decide (i = 1) && chkO D sc a x
  | .srt o, .Call (.Name x _) [e] [] _ => eqS x "sorted" && freeC D sc x && noStar e && chkO D sc o e
  | .split a b, .Call (.Attribute oe m apos) [x] [] cpos => eqS m "split" && (apos.endLine == cpos.line) && noCall0 oe && noStar x && chkO D sc a oe && chkO D sc b x
  | .lrng a b, .Call (.Name x _) [.Call (.Name y _) [e, e2] [] _] [] _ => eqS x "list" && freeC D sc x && eqS y "range" && freeC D sc y && noStar e && noStar e2 && chkE D sc a e && chkE D sc b e2
  | _, _ => false
def chkTs (D : Dat) (sc : List (Str × NameKind)) : List T → List Expr → Bool
  | [], [] => true
  | [t], [e] => chkT D sc t e
  | _, _ => false
def chkI (D : Dat) (sc : List (Str × NameKind)) : I → Expr → Expr → Bool
  | .sq o, _, e => chkO D sc o e
  | .rng a, _, .Call (.Name x _) [e] [] _ => eqS x "range" && freeC D sc x && noStar e && chkE D sc a e
  | .enum o, tg, .Call (.Name x _) [e] [] _ => tupP tg && eqS x "enumerate" && freeC D sc x && noStar e && chkO D sc o e
  | .rng2 a b, _, .Call (.Name x _) [e, e2] [] _ => eqS x "range" && freeC D sc x && noStar e && noStar e2 && chkE D sc a e && chkE D sc b e2
  | _, _, _ => false
end

/-! ### a def's promise (where no repr is under way) -/
structure FOk (P : Program) (w : World) (K : Frag) (mg : Str → Option Value) (base : Heap) (k : Nat) (f : Addr) (fd : FuncData) (ps : List Str) (sp : Sp) : Prop where
  len : ∀ vs H Q E, sp vs H Q E → vs.length = ps.length
  run : ∀ (A : Around) (outer : List PySem.Env) (s : Shared) (H : Hp) (args : Args) (us : List Value) (vs : List V) (Q : VK), Room k A → A.guards = some [] → Env0 P w K mg base A outer s H → BindsTo s fd args (ps.zip us) → Vals vs us → sp vs H Q E0 →
    codeAny (model P w) A (.call (.ref f) args) (CR CX0 outer P w H s Q E0) s
/-- what a call of the def f gives -/
def spC (K : Frag) (c : Ct) (f np : Nat) : Sp := fun vs H Q _ => vs.length = np ∧ ∃ g ps S p S', StR K g H S ∧ Rps K g vs ps ∧ c.call f ps S = .ok p S' ∧ ∀ g' v H', Stp g H g' H' → StR K g' H' S' → Rp K g' v p → Q v H'
/-- .. where the list is the caller's alone -/
def spO (K : Frag) (c : Ct) (f np : Nat) : Sp := fun vs H Q _ => vs.length = np ∧ ∃ g ps S xs S', StR K g H S ∧ Rps K g vs ps ∧ c.callO f ps S = .ok xs S' ∧ ∀ g' p vs' H', Stp g H g' H' → StR K g' H' S' → H' p = some (.lst vs') → Rps K g' vs' xs → g'.G p = none → p ∉ g'.B → H p = none → Q (.ref p) H'

/-- where a text runs -/
structure OkX (D : Dat) (c : Ct) (n : Nat) (X : Cx) : Prop where
  N : X.N = D.N
  nd : D.N.Nodup
  calm : X.calm = true
  room : Room n X.A
  gd : X.A.guards = some []
  xe : X.xe = fun _ _ => False
  kd : X.env.scope.kind = .function
  cns : ∀ (i : Nat) (x : Str) (p : PV), D.cn[i]? = some x → c.cs[i]? = some p → ∃ u v, X.mg x = some u ∧ RelV v u ∧ ∀ g, Rp X.K g v p
  free : ∀ x ∈ D.free, X.mg x = none
  fns : ∀ (f : Nat) (x : Str), D.fnn[f]? = some x → ∃ fa fd ps np, X.mg x = some (.ref fa) ∧ PySem.W.keepIn X.K (.ref fa) = true ∧ Binds X.K fd ps [] ∧ FOk X.prog X.w X.K X.mg X.base n fa fd ps (spC X.K c f np) ∧ FOk X.prog X.w X.K X.mg X.base n fa fd ps (spO X.K c f np) ∧ (∀ (ps : List PV) S p S', c.call f ps S = .ok p S' → ps.length = np) ∧ ∀ (ps : List PV) S p S', c.callO f ps S = .ok p S' → ps.length = np
theorem OkX.blk {D : Dat} {c : Ct} {n : Nat} {X : Cx} (o : OkX D c n X) (s : Shared) (H : Hp) (scope : Scope) (cenv : PySem.Env) (fp : List Addr) (hk : cenv.scope.kind = .function) : OkX D c n (X.blk s H scope cenv fp) :=
  ⟨o.N, o.nd, o.calm, o.room, o.gd, rfl, hk, o.cns, o.free, o.fns⟩
theorem OkX.hu {D : Dat} {c : Ct} {n : Nat} {X : Cx} (o : OkX D c n X) : X.A.units + 65 < cLine := by have := o.room.un; omega

/-! ### slots -/
structure EnvR (K : Frag) (g : Gh) (H H0 : Hp) (σ : L2.St) (ρ : Env) : Prop where
  len : σ.length = ρ.length
  val : ∀ (i : Nat) p, ρ[i]? = some (.val p) → ∃ v, σ[i]? = some (some v) ∧ Rp K g v p
  own : ∀ (i : Nat) m, ρ[i]? = some (.hold m) → ∃ a, σ[i]? = some (some (.ref a)) ∧ ObR K g H a m ∧ H a ≠ none ∧ g.G a = none ∧ a ∉ g.B ∧ H0 a = none
  apart : ∀ (i j : Nat) m m' a, i ≠ j → ρ[i]? = some (.hold m) → ρ[j]? = some (.hold m') → σ[i]? = some (some (.ref a)) → σ[j]? ≠ some (some (.ref a))
theorem EnvR.ownL {K : Frag} {g : Gh} {H H0 : Hp} {σ : L2.St} {ρ : Env} (e : EnvR K g H H0 σ ρ) (i : Nat) (xs : List PV) (h : ρ[i]? = some (.own xs)) : ∃ a vs, σ[i]? = some (some (.ref a)) ∧ H a = some (.lst vs) ∧ Rps K g vs xs ∧ g.G a = none ∧ a ∉ g.B ∧ H0 a = none := by
  obtain ⟨a, h1, h2, _, h4, h5, h6⟩ := e.own i _ h
  cases h2 with
  | lst x y => exact ⟨a, _, h1, x, y, h4, h5, h6⟩
theorem EnvR.ownD {K : Frag} {g : Gh} {H H0 : Hp} {σ : L2.St} {ρ : Env} (e : EnvR K g H H0 σ ρ) (i : Nat) (ks : List Ky) (xs : List PV) (h : ρ[i]? = some (.dwn ks xs)) : ∃ a kvs, σ[i]? = some (some (.ref a)) ∧ H a = some (.dK kvs) ∧ kvs.map (·.1) = ks.map kyK ∧ Rps K g (kvs.map (·.2)) xs ∧ g.G a = none ∧ a ∉ g.B ∧ H0 a = none := by
  obtain ⟨a, h1, h2, _, h4, h5, h6⟩ := e.own i _ h
  cases h2 with
  | dct x z y => exact ⟨a, _, h1, x, z, y, h4, h5, h6⟩
theorem EnvR.stp {K : Frag} {g g' : Gh} {H H' H0 : Hp} {σ : L2.St} {ρ : Env} (t : Stp g H g' H') (e : EnvR K g H H0 σ ρ) : EnvR K g' H' H0 σ ρ where
  len := e.len
  val := fun i p h => by
    obtain ⟨v, h1, h2⟩ := e.val i p h
    exact ⟨v, h1, h2.stp t⟩
  own := fun i xs h => by
    obtain ⟨a, h1, h2, h3, h4, h5, h6⟩ := e.own i xs h
    obtain ⟨x, y, z⟩ := t.keepN h3 h4 h5
    exact ⟨a, h1, h2.stp t h5, x, y, z, h6⟩
  apart := e.apart
/-- slots forgotten -/
theorem wipeE_length (ρ : Env) : ∀ l : List Nat, (wipeE ρ l).length = ρ.length
  | [] => rfl
  | i :: r => by unfold wipeE; rw [wipeE_length _ r, List.length_set]
theorem wipeE_get {ρ : Env} {i : Nat} {x : Slot} : ∀ {l : List Nat}, (wipeE ρ l)[i]? = some x → x = .no ∨ (ρ[i]? = some x ∧ i ∉ l)
  | [], h => .inr ⟨h, by simp⟩
  | j :: r, h => by
    unfold wipeE at h
    rcases wipeE_get (l := r) h with e | ⟨e, n⟩
    · exact .inl e
    · by_cases hj : j = i
      · subst hj
        by_cases hl : j < ρ.length
        · rw [List.getElem?_set_self hl] at e; cases e; exact .inl rfl
        · rw [List.getElem?_eq_none (by simpa using hl)] at e; cases e
      · rw [List.getElem?_set_ne hj] at e
        exact .inr ⟨e, by simp only [List.mem_cons, not_or]; exact ⟨fun z => hj z.symm, n⟩⟩
theorem wipe_out2 {σ : L2.St} {i : Nat} : ∀ {vs : List Nat}, i ∉ vs → (wipe σ vs)[i]? = σ[i]?
  | [], _ => rfl
  | v :: vs, h => by
    unfold wipe
    simp only [List.mem_cons, not_or] at h
    rw [List.getElem?_set_ne (fun z => h.1 z.symm), wipe_out2 h.2]
theorem EnvR.wipe {K : Frag} {g : Gh} {H H0 : Hp} {σ : L2.St} {ρ : Env} (e : EnvR K g H H0 σ ρ) (l : List Nat) : EnvR K g H H0 (L2.wipe σ l) (wipeE ρ l) where
  len := by rw [wipe_length, wipeE_length]; exact e.len
  val := fun i p h => by
    rcases wipeE_get h with z | ⟨z, n⟩
    · cases z
    · obtain ⟨v, h1, h2⟩ := e.val i p z
      exact ⟨v, by rw [wipe_out2 n]; exact h1, h2⟩
  own := fun i xs h => by
    rcases wipeE_get h with z | ⟨z, n⟩
    · cases z
    · obtain ⟨a, h1, h2⟩ := e.own i xs z
      exact ⟨a, by rw [wipe_out2 n]; exact h1, h2⟩
  apart := fun i j xs ys a hij h1 h2 h3 => by
    rcases wipeE_get h1 with z1 | ⟨z1, n1⟩
    · cases z1
    · rcases wipeE_get h2 with z2 | ⟨z2, n2⟩
      · cases z2
      · rw [wipe_out2 n1] at h3
        rw [wipe_out2 n2]
        exact e.apart i j xs ys a hij z1 z2 h3
theorem EnvR.setVal {K : Frag} {g : Gh} {H H0 : Hp} {σ : L2.St} {ρ : Env} (e : EnvR K g H H0 σ ρ) {i : Nat} {v : V} {p : PV} (r : Rp K g v p) : EnvR K g H H0 (σ.set i (some v)) (ρ.set i (.val p)) where
  len := by rw [List.length_set, List.length_set]; exact e.len
  val := fun j q h => by
    by_cases hj : i = j
    · subst hj
      by_cases hl : i < ρ.length
      · rw [List.getElem?_set_self hl] at h; cases h
        exact ⟨v, by rw [List.getElem?_set_self (by rw [e.len]; exact hl)], r⟩
      · rw [List.getElem?_eq_none (by simpa using hl)] at h; cases h
    · rw [List.getElem?_set_ne hj] at h ⊢
      exact e.val j q h
  own := fun j xs h => by
    by_cases hj : i = j
    · subst hj
      by_cases hl : i < ρ.length
      · rw [List.getElem?_set_self hl] at h; cases h
      · rw [List.getElem?_eq_none (by simpa using hl)] at h; cases h
    · rw [List.getElem?_set_ne hj] at h ⊢
      exact e.own j xs h
  apart := fun j k xs ys a hjk h1 h2 h3 => by
    have n1 : i ≠ j := fun z => by
      subst z
      by_cases hl : i < ρ.length
      · rw [List.getElem?_set_self hl] at h1; cases h1
      · rw [List.getElem?_eq_none (by simpa using hl)] at h1; cases h1
    have n2 : i ≠ k := fun z => by
      subst z
      by_cases hl : i < ρ.length
      · rw [List.getElem?_set_self hl] at h2; cases h2
      · rw [List.getElem?_eq_none (by simpa using hl)] at h2; cases h2
    rw [List.getElem?_set_ne n1] at h1 h3
    rw [List.getElem?_set_ne n2] at h2 ⊢
    exact e.apart j k xs ys a hjk h1 h2 h3

/-! ### the readings -/
section
variable (K : Frag) (c : Ct)
/-- the state that an expression is met in -/
structure At (H : Hp) (σ : L2.St) (g : Gh) (ρ : Env) (S : Sto) (H0 : Hp) : Prop where
  env : EnvR K g H H0 σ ρ
  st : StR K g H S
def tE (e : E) : TE := fun σ H Q => ∃ g ρ S H0 p S', At K H σ g ρ S H0 ∧ evE c e ρ S = .ok p S' ∧ ∀ g' v H', Stp g H g' H' → StR K g' H' S' → Rp K g' v p → Q v H'
def tO (e : O) : TE := fun σ H Q => ∃ g ρ S H0 p S', At K H σ g ρ S H0 ∧ evO c e ρ S = .ok p S' ∧ ∀ g' v H', Stp g H g' H' → StR K g' H' S' → RdO K g' H' v p → Q v H'
def tF (e : F) : TE := fun σ H Q => ∃ g ρ S H0 xs S', At K H σ g ρ S H0 ∧ evF c e ρ S = .ok xs S' ∧ ∀ g' p vs H', Stp g H g' H' → StR K g' H' S' → H' p = some (.lst vs) → Rps K g' vs xs → g'.G p = none → p ∉ g'.B → H p = none → Q (.ref p) H'
def tTT (e : T) : TT := fun σ H Q => ∃ g ρ S H0 b S', At K H σ g ρ S H0 ∧ evT c e ρ S = .ok b S' ∧ ∀ g' H', Stp g H g' H' → StR K g' H' S' → Q b H'
def tTTs (e : List T) : TT := fun σ H Q => ∃ g ρ S H0 b S', At K H σ g ρ S H0 ∧ evTs c e ρ S = .ok b S' ∧ ∀ g' H', Stp g H g' H' → StR K g' H' S' → Q b H'
def tEs (e : List E) : TA := fun σ H Q => ∃ g ρ S H0 ps S', At K H σ g ρ S H0 ∧ evEs c e ρ S = .ok ps S' ∧ ∀ g' vs H', Stp g H g' H' → StR K g' H' S' → Rps K g' vs ps → Q vs H'
def tOs (e : List O) : TA := fun σ H Q => ∃ g ρ S H0 ps S', At K H σ g ρ S H0 ∧ evOs c e ρ S = .ok ps S' ∧ ∀ g' vs H', Stp g H g' H' → StR K g' H' S' → RdOs K g' H' vs ps → Q vs H'
def tB (e : B) : TO := fun σ H Q => ∃ g ρ S H0 o S', At K H σ g ρ S H0 ∧ evB c e ρ S = .ok o S' ∧ ∀ g' H', Stp g H g' H' → StR K g' H' S' → Q o H'
end
theorem StR.live {K : Frag} {g : Gh} {H : Hp} {S : Sto} (r : StR K g H S) {g' : Gh} {H' : Hp} {S' : Sto} (t : Stp g H g' H') (r' : StR K g' H' S') : ∀ x ∈ g.B, H x ≠ none → H' x ≠ none :=
  fun x hx _ => r'.ok x (t.bsub hx)
theorem Stp.tr {K : Frag} {g g1 g2 : Gh} {H H1 H2 : Hp} {S S1 : Sto} (a : Stp g H g1 H1) (b : Stp g1 H1 g2 H2) (r : StR K g H S) (r1 : StR K g1 H1 S1) : Stp g H g2 H2 := a.trans b (r.live a r1)
theorem At.after {K : Frag} {H H' : Hp} {σ : L2.St} {g g' : Gh} {ρ : Env} {S S' : Sto} {H0 : Hp} (a : At K H σ g ρ S H0) (t : Stp g H g' H') (r : StR K g' H' S') : At K H' σ g' ρ S' H0 := ⟨a.env.stp t, r⟩

/-! weakening a reading -/
theorem PE.weak {X : Cx} {e : Expr} {t u : TE} (h : PE X e t) (k : ∀ σ H Q, u σ H Q → t σ H Q) : PE X e u := ⟨fun pins s σ H Q I q => h.run pins s σ H Q I (k σ H Q q)⟩
theorem PT.weak {X : Cx} {e : Expr} {t u : TT} (h : PT X e t) (k : ∀ σ H Q, u σ H Q → t σ H Q) : PT X e u := ⟨fun pins s σ H Q I q => h.run pins s σ H Q I (k σ H Q q)⟩
theorem PW.weak {X : Cx} {e : Expr} {t u : TT} (h : PW X e t) (k : ∀ σ H Q, u σ H Q → t σ H Q) : PW X e u := ⟨fun w pins s σ H Q I q => h.run w pins s σ H Q I (k σ H Q q)⟩
theorem PA.weak {X : Cx} {e : List Expr} {t u : TA} (h : PA X e t) (k : ∀ σ H Q, u σ H Q → t σ H Q) : PA X e u := ⟨fun p pins s σ H Q I q => h.run p pins s σ H Q I (k σ H Q q)⟩
theorem PO.weak {X : Cx} {e : Option Expr} {t u : TO} (h : PO X e t) (k : ∀ σ H Q, u σ H Q → t σ H Q) : PO X e u := ⟨fun pins s σ H Q I q => h.run pins s σ H Q I (k σ H Q q)⟩
theorem PS.weak {X : Cx} {e : Stmt} {t u : TS} (h : PS X e t) (k : ∀ D σ H, u D σ H → t D σ H) : PS X e u := ⟨fun pins s σ H D I q => h.run pins s σ H D I (k D σ H q)⟩
theorem PSs.weak {X : Cx} {e : List Stmt} {t u : TS} (h : PSs X e t) (k : ∀ D σ H, u D σ H → t D σ H) : PSs X e u := ⟨fun pins s σ H D I q => h.run pins s σ H D I (k D σ H q)⟩
theorem PG.weak {X : Cx} {e : Expr} {t u : TG} (h : PG X e t) (k : ∀ v σ H Q, u v σ H Q → t v σ H Q) : PG X e u := ⟨fun pins s σ H v w Q I r q => h.run pins s σ H v w Q I r (k v σ H Q q)⟩
theorem PGs.weak {X : Cx} {e : List Expr} {t u : TGs} (h : PGs X e t) (k : ∀ v σ H Q, u v σ H Q → t v σ H Q) : PGs X e u := ⟨fun pins s σ H v w Q I r q => h.run pins s σ H v w Q I r (k v σ H Q q)⟩
theorem PI.weak {X : Cx} {tg e : Expr} {t u : TI} (h : PI X tg e t) (k : ∀ σ H Q, u σ H Q → t σ H Q) : PI X tg e u := ⟨fun pins s σ H Q I q => h.run pins s σ H Q I (k σ H Q q)⟩

/-! side conditions of forms -/
theorem star_cons {e : Expr} {es : List Expr} {env : PySem.Env} (h : noStar e = true) : starEach (e :: es) env = (false, eval e env) :: starEach es env := by
  cases e <;> first | rfl | cases h
theorem mark_no {b : Expr} {op : CmpOp} (h : noSet b = true) : behindInMarks op b = false := by
  cases b <;> first | rfl | cases h
theorem marks_no {b c : Expr} {o p : CmpOp} (h : noSet c = true) : lastMarks [o, p] [b, c] = false := by
  show behindInMarks p c = false
  exact mark_no h
theorem plain_ix {b : Expr} (h : plainX b = true) : PlainIx b := by
  intro o i
  cases b <;> first | rfl | cases h
theorem fold_no {e : Expr} {env : PySem.Env} (h : noSet e = true) : ∀ x, foldedSetIterable e env x = pure x := by
  intro x
  cases e <;> first | rfl | cases h
theorem test_plain {e : Expr} {env : PySem.Env} (h : plainT e = true) : ∀ whole, isTrue e env whole = (do let v ← whole; standAt e.pos; holding [v] (truthy v)) := by
  intro w
  cases e <;> first | rfl | cases h
end Mn
end

section
set_option Elab.async false
set_option linter.all false
set_option autoImplicit false
set_option maxHeartbeats 4000000
/-! MnExp: expressions, tests, new lists: what the evaluator says, the machine does. -/
namespace Mn
open PySem PySem.Spec PyProof.Rows L2

/-! ### calls of defs -/
section
variable {X : Cx} {k : Nat} {f : Addr} {fd : FuncData} {ps : List Str} {sp : Sp} {x : Str} {p pos : Pos} {e : Expr} {es : List Expr} {t : TA}
theorem run_fnG {pins : List (Addr × Obj)} {σ : L2.St} {H : Hp} {s : Shared} {Q : VK} {us : List Value} {vs : List V} (F : FOk X.prog X.w X.K X.mg X.base k f fd ps sp) (hr : Room k X.A) (hg : X.A.guards = some []) (hb : Binds X.K fd ps [])
    (I : Inv X pins σ H s) (r : Vals vs us) (h : sp vs H Q E0) : wpAny (model X.prog X.w) X.A (call (.ref f) us) (EP X pins σ Q) X.xe s := by
  have hl : us.length = ps.length := by rw [← r.length]; exact F.len _ _ _ _ h
  have hb' := hb s us I.kIn (by simpa using hl)
  rw [List.append_nil] at hb'
  refine wpAny_call (codeAny_mono (F.run X.A X.stack s H ⟨us, []⟩ us vs Q hr hg I.env0 hb' r h) fun res s' hq => ?_)
  cases res with
  | error e => exact False.elim hq
  | ok fl =>
    cases fl with
    | ret u => exact I.after hq
    | next => exact False.elim hq
    | brk => exact False.elim hq
    | cont => exact False.elim hq
theorem pe_callG (F : FOk X.prog X.w X.K X.mg X.base k f fd ps sp) (hr : Room k X.A) (hgd : X.A.guards = some []) (hg : Gl X x) (hm : X.mg x = some (.ref f)) (hk : PySem.W.keepIn X.K (.ref f) = true) (hb : Binds X.K fd ps [])
    (ha : PA X (e :: es) t) (hdb : (x == ("__debug__" : Str)) = false) (he : starEach (e :: es) X.env = (false, eval e X.env) :: starEach es X.env) (hpl : (backTo pos (starEach es X.env)).any (·.1) = false) :
    PE X (.Call (.Name x p) (e :: es) [] pos) (fun σ H Q => t σ H fun vs H1 => sp vs H1 Q E0) := by
  refine ⟨fun pins s σ H Q I h => ?_⟩
  refine wpAny_Call_Name_kw (ld_glob I hg hm ?_ hdb)
  refine PySem.W.callWith_K (h₀ := X.base) I.ok.mod.kin hk (thn (ha.run pos pins s σ H _ I h) fun us s1 ⟨vs, H1, I1, r, q⟩ => ⟨I1.kIn, ?_⟩) he hpl
  exact run_fnG F hr hgd hb I1 r q
theorem pe_callG0 (F : FOk X.prog X.w X.K X.mg X.base k f fd ps sp) (hr : Room k X.A) (hgd : X.A.guards = some []) (hg : Gl X x) (hm : X.mg x = some (.ref f)) (hk : PySem.W.keepIn X.K (.ref f) = true) (hb : Binds X.K fd ps [])
    (hdb : (x == ("__debug__" : Str)) = false) : PE X (.Call (.Name x p) [] [] pos) (fun σ H Q => sp [] H Q E0) := by
  refine ⟨fun pins s σ H Q I h => ?_⟩
  refine wpAny_Call_Name_kw (ld_glob I hg hm ?_ hdb)
  exact PySem.W.callWith_K0 I.kIn hk (run_fnG (us := []) F hr hgd hb I .nil h)
end
theorem stars_no {env : PySem.Env} {pos : Pos} : ∀ {es : List Expr}, (∀ e ∈ es, noStar e = true) → (backTo pos (starEach es env)).any (·.1) = false
  | [], _ => rfl
  | e :: es, h => by
    rw [star_cons (h e List.mem_cons_self)]
    have ih := stars_no (env := env) (pos := pos) (es := es) fun x hx => h x (List.mem_cons_of_mem _ hx)
    simp only [backTo, List.map_cons, List.any_cons] at ih ⊢
    exact ih
theorem chkEs_star {D : Dat} {sc : List (Str × NameKind)} : ∀ {es : List E} {xs : List Expr}, chkEs D sc es xs = true → ∀ x ∈ xs, noStar x = true
  | [], [], _, x, hx => by cases hx
  | [], _ :: _, h, _, _ => by cases h
  | _ :: _, [], h, _, _ => by cases h
  | e :: es, y :: ys, h, x, hx => by
    simp only [chkEs, Bool.and_eq_true] at h
    rcases List.mem_cons.mp hx with rfl | hx
    · exact h.1.1
    · exact chkEs_star h.2 x hx
theorem chkOs_star {D : Dat} {sc : List (Str × NameKind)} : ∀ {es : List O} {xs : List Expr}, chkOs D sc es xs = true → ∀ x ∈ xs, noStar x = true
  | [], [], _, x, hx => by cases hx
  | [], _ :: _, h, _, _ => by cases h
  | _ :: _, [], h, _, _ => by cases h
  | e :: es, y :: ys, h, x, hx => by
    simp only [chkOs, Bool.and_eq_true] at h
    rcases List.mem_cons.mp hx with rfl | hx
    · exact h.1.1
    · exact chkOs_star h.2 x hx

theorem boot_bl (f : Bl) : bootBuiltins (blN f) = some (blV f) := by cases f <;> decide +kernel
theorem blN_ok (f : Bl) : blN f ≠ "__name__" ∧ (blN f == ("__debug__" : Str)) = false := by cases f <;> decide +kernel
/-- a function of Python's own, called -/
theorem pe_blt {X : Cx} {f : Bl} {p pos : Pos} {e : Expr} {es : List Expr} {t : TA} {r : List V → Hp → VK → Prop} (hc : CallR X (blV f) r) (hg : Gl X (blN f)) (hm : X.mg (blN f) = none) (ha : PA X (e :: es) t)
    (he : starEach (e :: es) X.env = (false, eval e X.env) :: starEach es X.env) (hpl : (backTo pos (starEach es X.env)).any (·.1) = false) : PE X (.Call (.Name (blN f) p) (e :: es) [] pos) (tCB r t) := by
  have hb := boot_bl f
  have hn := blN_ok f
  cases f <;> first
    | exact pe_callB hc hg hm hb ha hn.1 hn.2 he hpl
    | exact pe_callTy hc hg hm hb ha hn.1 hn.2 he hpl

/-! ### what is walked -/
/-- a walk over known things -/
structure Enm (K : Frag) (g : Gh) (H : Hp) (J : It) (xs : List PV) : Prop where
  ex : ∃ (G : Hp → Prop) (Y : Nat → Hp → V → Hp → Prop), Walk J xs.length G Y ∧ (∀ g' H' S', Stp g H g' H' → StR K g' H' S' → G H') ∧
    ∀ i g' H' S' x H2, i < xs.length → Stp g H g' H' → StR K g' H' S' → Y i H' x H2 → ∃ g2 p, xs[i]? = some p ∧ Stp g' H' g2 H2 ∧ StR K g2 H2 S' ∧ Rp K g2 x p
def tI (K : Frag) (c : Ct) (it : I) : TI := fun σ H R => ∃ g ρ S H0 xs S', At K H σ g ρ S H0 ∧ evI c it ρ S = .ok xs S' ∧ ∀ g' J H', Stp g H g' H' → StR K g' H' S' → Enm K g' H' J xs → R J H'

/-- a list that stays, or a list in a slot: what it is later -/
theorem later_lst {K : Frag} {g : Gh} {H : Hp} {S : Sto} {v : V} {xs : List PV} (h : RdO K g H v (.lst xs)) (st : StR K g H S) : ∃ a vs, v = .ref a ∧ Rps K g vs xs ∧ ∀ g' H' S', Stp g H g' H' → StR K g' H' S' → SqX K H' a vs := by
  rcases h with h | ⟨a, m, rfl, e, h, q, n, b⟩
  · cases h with
    | lst s r => exact ⟨_, _, rfl, r, fun g' H' S' t st' => st'.sql (sql_mono t.gs s)⟩
  · cases m <;> cases e
    cases h with
    | lst h q => exact ⟨a, _, rfl, q, fun g' H' S' t st' => SqX.of (t.f _ _ h b)⟩
theorem later_tup {K : Frag} {g : Gh} {H : Hp} {S : Sto} {v : V} {xs : List PV} (h : RdO K g H v (.tup xs)) (st : StR K g H S) : ∃ a vs, v = .ref a ∧ Rps K g vs xs ∧ ∀ g' H' S', Stp g H g' H' → StR K g' H' S' → SqT K H' a vs := by
  rcases h with h | ⟨a, m, rfl, e, h, q, n, b⟩
  · cases h with
    | tup s r => exact ⟨_, _, rfl, r, fun g' H' S' t st' => st'.sqt (sqt_mono t.gs s)⟩
  · cases m <;> cases e
theorem enm_list {K : Frag} {g : Gh} {H : Hp} {a : Addr} {vs : List V} {xs : List PV} (r : Rps K g vs xs) (l : ∀ g' H' S', Stp g H g' H' → StR K g' H' S' → SqX K H' a vs) : Enm K g H (Itl K a) xs := by
  refine ⟨fun H => SqL K H a vs, YAt vs, by rw [← r.length]; exact walk_list, fun g' H' S' t st => (l g' H' S' t st).l, fun i g' H' S' x H2 hi t st y => ?_⟩
  obtain ⟨e1, e2⟩ := y
  subst e1
  obtain ⟨p, h1, h2⟩ := r.getV e2
  exact ⟨g', p, h1, .refl _ _, st, h2.stp t⟩
theorem enm_tup {K : Frag} {g : Gh} {H : Hp} {a : Addr} {vs : List V} {xs : List PV} (r : Rps K g vs xs) (l : ∀ g' H' S', Stp g H g' H' → StR K g' H' S' → SqT K H' a vs) : Enm K g H (Itt K a) xs := by
  refine ⟨fun H => SqT K H a vs, YAt vs, by rw [← r.length]; exact walk_tup, fun g' H' S' t st => l g' H' S' t st, fun i g' H' S' x H2 hi t st y => ?_⟩
  obtain ⟨e1, e2⟩ := y
  subst e1
  obtain ⟨p, h1, h2⟩ := r.getV e2
  exact ⟨g', p, h1, .refl _ _, st, h2.stp t⟩
theorem enm_str {K : Frag} {g : Gh} {H : Hp} {x : Sg} : Enm K g H (Its (toS x)) (x.map fun c => .str [c]) := by
  refine ⟨fun _ => True, fun i H v H' => H' = H ∧ ∃ c, (toS x).cps[i]? = some c ∧ v = .str ⟨#[c]⟩, ?_, fun _ _ _ _ _ => trivial, fun i g' H' S' v H2 hi t st y => ?_⟩
  · rw [List.length_map, show x.length = (toS x).cps.size by simp [toS]]
    exact walk_str
  · obtain ⟨e1, c, e2, e3⟩ := y
    subst e1 e3
    refine ⟨g', .str [c], ?_, .refl _ _, st, .str [c]⟩
    have : x[i]? = some c := by simpa [toS] using e2
    rw [List.getElem?_map, this]; rfl
theorem itemsX_own {i : Nat} {p : PV} : itemsX (.own i) p = itemsOf p := by cases p <;> rfl
theorem enm_dct {K : Frag} {g : Gh} {H : Hp} {a : Addr} {od : Obj} {kvs : List (Key × V)} {ks : List Ky} (s : g.G a = some (.frz od (.dK kvs))) (e : kvs.map (·.1) = ks.map kyK) : Enm K g H (Itk a od kvs) (ks.map kyP) := by
  refine ⟨fun H => H a = some (.frz od (.dK kvs)), fun i H x H' => H' = H ∧ ∃ k v, kvs[i]? = some (k, v) ∧ x = kV k, by
    rw [List.length_map, show ks.length = kvs.length by have := congrArg List.length e; simpa using this.symm]
    exact walk_keys, fun g' H' S' t st => st.sub _ _ (t.gs _ _ s), fun i g' H' S' x H2 hi t st y => ?_⟩
  obtain ⟨e1, k, v, e2, e3⟩ := y
  subst e1 e3
  have h1 : (ks.map kyK)[i]? = some k := by rw [← e, List.getElem?_map, e2]; rfl
  rw [List.getElem?_map, Option.map_eq_some_iff] at h1
  obtain ⟨ky, h1, rfl⟩ := h1
  refine ⟨g', kyP ky, by rw [List.getElem?_map, h1]; rfl, .refl _ _, st, ?_⟩
  cases ky with
  | i n => exact .int n
  | s x => exact .str x
theorem rngI_get : ∀ (n : Nat) (lo : Int) (i : Nat), i < n → (rngI lo n)[i]? = some (.int (lo + i))
  | 0, _, _, h => by omega
  | n + 1, lo, 0, _ => by simp [rngI]
  | n + 1, lo, i + 1, h => by
    simp only [rngI, List.getElem?_cons_succ]
    rw [rngI_get n (lo + 1) i (by omega)]
    congr 2
    omega
theorem rngI_len : ∀ (n : Nat) (lo : Int), (rngI lo n).length = n
  | 0, _ => rfl
  | n + 1, lo => by simp [rngI, rngI_len n]
theorem enm_rng {K : Frag} {g : Gh} {H : Hp} {lo : Int} {n : Nat} : Enm K g H (Itr lo n) (rngI lo n) := by
  refine ⟨fun _ => True, YFn fun i => .int (lo + i), ?_, fun _ _ _ _ _ => trivial, fun i g' H' S' v H2 hi t st y => ?_⟩
  · rw [rngI_len]
    exact walk_range
  · rw [rngI_len] at hi
    obtain ⟨e1, e2⟩ := y
    subst e1 e2
    exact ⟨g', _, rngI_get n lo i hi, .refl _ _, st, .int _⟩

section
variable {X : Cx} {tg : Expr}
/-- a list, a tuple or a text that is walked -/
def iSeq (K : Frag) (te : TE) : TI := fun σ H R => te σ H fun v H1 => (∃ a, v = .ref a ∧ (∃ xs, SqL K H1 a xs) ∧ R (Itl K a) H1) ∨ (∃ a, v = .ref a ∧ (∃ xs, SqT K H1 a xs) ∧ R (Itt K a) H1) ∨ ∃ x, v = .str x ∧ R (Its x) H1
theorem pi_seq {l : Expr} {te : TE} (hl : PE X l te) : PI X tg l (iSeq X.K te) := by
  -- each of the three rules, asked of a reading that has just this value
  refine ⟨fun pins s σ H R I h => ?_⟩
  refine thn (hl.run pins s σ H _ I h) fun v s1 ⟨x, H1, I1, r1, q1⟩ => ?_
  rcases q1 with ⟨a, e, ⟨xs, hq⟩, q⟩ | ⟨a, e, ⟨xs, hq⟩, q⟩ | ⟨z, e, q⟩
  · subst e
    cases r1
    obtain ⟨its, rv, p, hz⟩ := I1.list hq
    refine wpAny_pyIter_list p.isList ?_
    refine ⟨s1.heap.objs.size, [s1.heap.objs.size], _, _, H1, rfl, I1.kept (t' := s1.toks) (fun b o e => Heap.get?_push_of_some _ e), turn_list a _, ⟨_, Heap.get?_push_size _ rfl, rfl, rfl⟩, fun b hb => ?_, q⟩
    obtain rfl : b = s1.heap.objs.size := by simpa using hb
    exact I1.fpOk (Nat.le_refl _) (I1.hok.fresh (Nat.le_refl _))
  · subst e
    cases r1
    obtain ⟨its, rv, p, hz⟩ := I1.tuple hq
    refine wpAny_pyIter_tuple (show s1.heap.IsTuple a its.toArray from p) ?_
    refine ⟨s1.heap.objs.size, [s1.heap.objs.size], _, _, H1, rfl, I1.kept (t' := s1.toks) (fun b o e => Heap.get?_push_of_some _ e), turn_tuple a _, ⟨_, Heap.get?_push_size _ rfl, rfl, rfl⟩, fun b hb => ?_, q⟩
    obtain rfl : b = s1.heap.objs.size := by simpa using hb
    exact I1.fpOk (Nat.le_refl _) (I1.hok.fresh (Nat.le_refl _))
  · subst e
    obtain ⟨t, rfl⟩ := r1
    cases ha : z.cps.all (· < 128) with
    | false => exact wpAny_pyIter_wide ha (pi_one (tk := s1.toks) I1 _ (turn_str _ z t "str_iterator" (.inr rfl)) ⟨_, Heap.get?_push_size _ rfl, rfl, rfl⟩ q)
    | true => exact wpAny_pyIter_ascii ha (pi_one (tk := s1.toks) I1 _ (turn_str _ z t "str_ascii_iterator" (.inl rfl)) ⟨_, Heap.get?_push_size _ rfl, rfl, rfl⟩ q)
/-- .. or a locked dict -/
def iSeqD (K : Frag) (te : TE) : TI := fun σ H R => te σ H fun v H1 => ((∃ a, v = .ref a ∧ (∃ xs, SqL K H1 a xs) ∧ R (Itl K a) H1) ∨ (∃ a, v = .ref a ∧ (∃ xs, SqT K H1 a xs) ∧ R (Itt K a) H1) ∨ ∃ x, v = .str x ∧ R (Its x) H1) ∨ ∃ d od kvs, v = .ref d ∧ H1 d = some (.frz od (.dK kvs)) ∧ R (Itk d od kvs) H1
theorem pi_seqD {l : Expr} {te : TE} (hl : PE X l te) : PI X tg l (iSeqD X.K te) := by
  -- each of the three rules, asked of a reading that has just this value
  refine ⟨fun pins s σ H R I h => ?_⟩
  refine thn (hl.run pins s σ H _ I h) fun v s1 ⟨x, H1, I1, r1, q1⟩ => ?_
  rcases q1 with (⟨a, e, ⟨xs, hq⟩, q⟩ | ⟨a, e, ⟨xs, hq⟩, q⟩ | ⟨z, e, q⟩) | ⟨d, od, kvs, e, hd, q⟩
  · subst e
    cases r1
    obtain ⟨its, rv, p, hz⟩ := I1.list hq
    refine wpAny_pyIter_list p.isList ?_
    refine ⟨s1.heap.objs.size, [s1.heap.objs.size], _, _, H1, rfl, I1.kept (t' := s1.toks) (fun b o e => Heap.get?_push_of_some _ e), turn_list a _, ⟨_, Heap.get?_push_size _ rfl, rfl, rfl⟩, fun b hb => ?_, q⟩
    obtain rfl : b = s1.heap.objs.size := by simpa using hb
    exact I1.fpOk (Nat.le_refl _) (I1.hok.fresh (Nat.le_refl _))
  · subst e
    cases r1
    obtain ⟨its, rv, p, hz⟩ := I1.tuple hq
    refine wpAny_pyIter_tuple (show s1.heap.IsTuple a its.toArray from p) ?_
    refine ⟨s1.heap.objs.size, [s1.heap.objs.size], _, _, H1, rfl, I1.kept (t' := s1.toks) (fun b o e => Heap.get?_push_of_some _ e), turn_tuple a _, ⟨_, Heap.get?_push_size _ rfl, rfl, rfl⟩, fun b hb => ?_, q⟩
    obtain rfl : b = s1.heap.objs.size := by simpa using hb
    exact I1.fpOk (Nat.le_refl _) (I1.hok.fresh (Nat.le_refl _))
  · subst e
    obtain ⟨t, rfl⟩ := r1
    cases ha : z.cps.all (· < 128) with
    | false => exact wpAny_pyIter_wide ha (pi_one (tk := s1.toks) I1 _ (turn_str _ z t "str_iterator" (.inr rfl)) ⟨_, Heap.get?_push_size _ rfl, rfl, rfl⟩ q)
    | true => exact wpAny_pyIter_ascii ha (pi_one (tk := s1.toks) I1 _ (turn_str _ z t "str_ascii_iterator" (.inl rfl)) ⟨_, Heap.get?_push_size _ rfl, rfl, rfl⟩ q)
  · subst e
    cases r1
    obtain ⟨hs, hgd, hx, es, ep, vs, hdt, hsz, kv, hm⟩ := I1.frzK hd
    refine iter_keys hs hgd hx hdt (pi_one (tk := s1.toks) I1 _ (turn_keys _ hdt) ⟨_, Heap.get?_push_size _ rfl, rfl, ?_⟩ q)
    rw [hsz] <;> rfl
end

/-! ### targets -/
/-- slots but some stay -/
def SetIn (l : List Nat) (σ σ' : L2.St) : Prop := σ'.length = σ.length ∧ ∀ j, j ∉ l → σ'[j]? = σ[j]?
def gT (K : Frag) (t : Tg) : TG := fun v σ H Q => ∃ g p ρ ρ' S H0, At K H σ g ρ S H0 ∧ Rp K g v p ∧ asg t p ρ = some ρ' ∧ ∀ σ', EnvR K g H H0 σ' ρ' → SetIn (tgSlots t) σ σ' → Q σ' H
def gTs (K : Frag) (t : List Tg) : TGs := fun vs σ H Q => ∃ g ps ρ ρ' S H0, At K H σ g ρ S H0 ∧ Rps K g vs ps ∧ asgs t ps ρ = some ρ' ∧ ∀ σ', EnvR K g H H0 σ' ρ' → SetIn (tgsSlots t) σ σ' → Q σ' H
theorem each_cons {e : Expr} {es : List Expr} {env : PySem.Env} (h : noStar e = true) : assignEach (e :: es) env = (false, assign e env) :: assignEach es env := by
  cases e <;> first | rfl | cases h
theorem each_of {N : List Str} {sc : List (Str × NameKind)} {fc : Str → Bool} {env : PySem.Env} : ∀ {ts : List Tg} {es : List Expr}, chkTgs N sc fc ts es = true → (assignEach es env).length = ts.length ∧ (assignEach es env).findIdx? (·.1) = none
  | [], [], _ => ⟨rfl, rfl⟩
  | [], _ :: _, h => by cases h
  | _ :: _, [], h => by cases h
  | t :: ts, e :: es, h => by
    simp only [chkTgs, Bool.and_eq_true] at h
    rw [each_cons h.1.1]
    obtain ⟨h1, h2⟩ := each_of (env := env) h.2
    exact ⟨by simp [h1], by simp [List.findIdx?_cons, h2]⟩
theorem PG.or2 {X : Cx} {e : Expr} {t u : TG} (h1 : PG X e t) (h2 : PG X e u) : PG X e (fun v σ H Q => t v σ H Q ∨ u v σ H Q) := ⟨fun pins s σ H v w Q I r q => by
  rcases q with q | q
  · exact h1.run pins s σ H v w Q I r q
  · exact h2.run pins s σ H v w Q I r q⟩
theorem asgs_len {ts : List Tg} : ∀ {ps : List PV} {ρ ρ' : Env}, asgs ts ps ρ = some ρ' → ps.length = ts.length := by
  induction ts with
  | nil => intro ps ρ ρ' h; cases ps <;> simp [asgs] at h; rfl
  | cons t ts ih =>
    intro ps ρ ρ' h
    cases ps with
    | nil => simp [asgs] at h
    | cons p ps =>
      simp only [asgs, Option.bind_eq_some_iff] at h
      obtain ⟨a, _, h⟩ := h
      simp [ih h]
section
variable {D : Dat} {c : Ct} {n : Nat} {X : Cx} {fc : Str → Bool}
mutual
theorem sTg (o : OkX D c n X) (hf : ∀ x, fc x = true → X.fn x = true) : ∀ (t : Tg) (e : Expr), chkTg D.N X.env.scope.names fc t e = true → PG X e (gT X.K t)
  | .nm i, e, h => by
    cases e <;> simp only [chkTg, Bool.false_eq_true] at h
    rename_i x pos
    rw [Bool.and_eq_true] at h
    obtain ⟨h1, h2⟩ := h
    have hl : Loc X.env.scope x ∧ (X.fn x = true ∨ X.env.scope.names.lookup x = some .local) := by
      split at h2
      case h_1 e => exact ⟨.inl e, .inr e⟩
      case h_2 e => exact ⟨.inr e, .inl (hf x h2)⟩
      case h_3 => cases h2
    refine PG.weak (pg_name (i := i) (by rw [o.N]; exact o.nd) (by rw [o.N]; exact atN_ok h1) hl.1 hl.2) fun v σ H Q q => ?_
    obtain ⟨g, p, ρ, ρ', S, H0, a, r, e, k⟩ := q
    simp only [asg, Option.some.injEq] at e
    subst e
    refine k _ (a.env.setVal r) ⟨by rw [List.length_set], fun j hj => ?_⟩
    simp only [tgSlots, List.mem_singleton] at hj
    rw [List.getElem?_set_ne (fun z => hj z.symm)]
  | .tp ts, e, h => by
    cases e <;> simp only [chkTg, Bool.false_eq_true] at h
    rename_i es kk pos
    obtain ⟨e1, e2⟩ := each_of (env := X.env) h
    refine PG.weak (PG.or2 (pg_tup (k := kk) o.calm (sTgs o hf ts es h) e1 e2) (pg_unl (k := kk) o.calm (sTgs o hf ts es h) e1 e2)) fun v σ H Q q => ?_
    obtain ⟨g, p, ρ, ρ', S, H0, a, r, e, k⟩ := q
    cases p <;> simp only [asg, reduceCtorEq] at e
    · cases r with
      | tup s r => exact .inl ⟨_, _, rfl, a.st.sqt s, by rw [r.length, asgs_len e], g, _, ρ, ρ', S, H0, a, r, e, k⟩
    · cases r with
      | lst s r => exact .inr ⟨_, _, rfl, (a.st.sql s).l, by rw [r.length, asgs_len e], g, _, ρ, ρ', S, H0, a, r, e, k⟩
theorem sTgs (o : OkX D c n X) (hf : ∀ x, fc x = true → X.fn x = true) : ∀ (ts : List Tg) (es : List Expr), chkTgs D.N X.env.scope.names fc ts es = true → PGs X es (gTs X.K ts)
  | [], [], _ => by
    refine PGs.weak pgs_nil fun v σ H Q q => ?_
    obtain ⟨g, ps, ρ, ρ', S, H0, a, r, e, k⟩ := q
    cases ps with
    | nil =>
      simp only [asgs, Option.some.injEq] at e
      subst e
      cases r
      exact ⟨rfl, k _ a.env ⟨rfl, fun _ _ => rfl⟩⟩
    | cons _ _ => simp [asgs] at e
  | [], _ :: _, h => by cases h
  | _ :: _, [], h => by cases h
  | t :: ts, e :: es, h => by
    simp only [chkTgs, Bool.and_eq_true] at h
    refine PGs.weak (pgs_cons (sTg o hf t e h.1.2) (sTgs o hf ts es h.2) (by rw [each_cons h.1.1]; rfl)) fun v σ H Q q => ?_
    obtain ⟨g, ps, ρ, ρ', S, H0, a, r, e, k⟩ := q
    cases ps with
    | nil => simp [asgs] at e
    | cons p ps =>
      simp only [asgs, Option.bind_eq_some_iff] at e
      obtain ⟨ρ1, e1, e2⟩ := e
      cases r with
      | cons r1 r2 =>
        refine ⟨_, _, rfl, g, p, ρ, ρ1, S, H0, a, r1, e1, fun σ1 v1 s1 => ⟨g, ps, ρ1, ρ', S, H0, ⟨v1, a.st⟩, r2, e2, fun σ2 v2 s2 => k σ2 v2 ⟨by rw [s2.1, s1.1], fun j hj => ?_⟩⟩⟩
        simp only [tgsSlots, List.mem_append, not_or] at hj
        rw [s2.2 j hj.2, s1.2 j hj.1]
end
end

/-! ### a list in the making -/
theorem ne_mem {B : List Addr} {a p : Addr} (ha : a ∈ B) (h2 : p ∉ B) : a ≠ p := fun z => h2 (z ▸ ha)
theorem StR.poke {K : Frag} {g : Gh} {H : Hp} {S : Sto} (r : StR K g H S) {d : Addr} (o : HO) (h1 : g.G d = none) (h2 : d ∉ g.B) : StR K g (upd H d o) S where
  sub := fun a o' e => by rw [upd_ne (fun z => by rw [z, h1] at e; cases e)]; exact r.sub a o' e
  len := r.len
  ob := fun n a mo e1 e2 => (r.ob n a mo e1 e2).keep (fun o' e => by rw [upd_ne (ne_mem (List.mem_of_getElem? e1) h2)]; exact e) (fun _ _ h => h) fun _ _ h => h
  nog := r.nog
  nd := r.nd
  ok := fun a ha => by rw [upd_ne (ne_mem ha h2)]; exact r.ok a ha
theorem Stp.poke {g g' : Gh} {H H' : Hp} (t : Stp g H g' H') {d : Addr} (o : HO) (h : H d = none) : Stp g H g' (upd H' d o) where
  gs := t.gs
  n := t.n
  b := t.b
  f := fun a o' e n => by rw [upd_ne (fun z => by rw [z, h] at e; cases e)]; exact t.f a o' e n
theorem Stp.ng {g g' : Gh} {H H' : Hp} (t : Stp g H g' H') {a : Addr} {o : HO} (h : H a = some o) (n : g.G a = none) : g'.G a = none := by
  cases q : g'.G a with
  | none => rfl
  | some u =>
    rcases t.n a u q with z | z
    · rw [n] at z; cases z
    · rw [h] at z; cases z
/-- a fresh list that is to stay -/
theorem StR.keepL {K : Frag} {g : Gh} {H : Hp} {S : Sto} (r : StR K g H S) {p : Addr} {o : HO} (e : H p = some o) (h1 : g.G p = none) (h2 : p ∉ g.B) : StR K ⟨upd g.G p o, g.B⟩ H S where
  sub := fun a o' e' => by
    have e2 : upd g.G p o a = some o' := e'
    by_cases z : a = p
    · subst z; rw [upd_same] at e2; rw [e]; exact e2
    · rw [upd_ne z] at e2; exact r.sub a o' e2
  len := r.len
  ob := fun n a mo e1 e2 => (r.ob n a mo e1 e2).keep (fun _ h => h) (fun a' o' e' => by show upd g.G p o a' = some o'; rw [upd_ne (fun z => by rw [z, h1] at e'; cases e')]; exact e') fun _ _ h => h
  nog := fun a ha => by show upd g.G p o a = none; rw [upd_ne (ne_mem ha h2)]; exact r.nog a ha
  nd := r.nd
  ok := r.ok
theorem Stp.keepL {g g' : Gh} {H H' : Hp} (t : Stp g H g' H') {p : Addr} (o : HO) (hp : H p = none) (h1 : g'.G p = none) : Stp g H ⟨upd g'.G p o, g'.B⟩ H' where
  gs := fun a o' e => by
    show upd g'.G p o a = some o'
    have := t.gs a o' e
    rw [upd_ne (fun z => by rw [z, h1] at this; cases this)]; exact this
  n := fun a o' e => by
    have e2 : upd g'.G p o a = some o' := e
    by_cases z : a = p
    · subst z; exact .inr hp
    · rw [upd_ne z] at e2; exact t.n a o' e2
  b := t.b
  f := t.f
/-- .. and is locked -/
theorem StR.lockL {K : Frag} {g : Gh} {H : Hp} {S : Sto} (r : StR K g H S) {p : Addr} {u o : HO} (e : H p = some u) (h1 : g.G p = none) (h2 : p ∉ g.B) : StR K ⟨upd g.G p o, g.B⟩ (upd H p o) S where
  sub := fun a o' e' => by
    have e2 : upd g.G p o a = some o' := e'
    by_cases z : a = p
    · subst z; rw [upd_same] at e2 ⊢; exact e2
    · rw [upd_ne z] at e2 ⊢; exact r.sub a o' e2
  len := r.len
  ob := fun n a mo e1 e2 => by
    have hm : a ≠ p := ne_mem (List.mem_of_getElem? e1) h2
    exact ((r.ob n a mo e1 e2).at fun o e => by rw [upd_ne hm]; exact e).keep (fun _ h => h) (fun a' o' e' => by show upd g.G p o a' = some o'; rw [upd_ne (fun z => by rw [z, h1] at e'; cases e')]; exact e') fun _ _ h => h
  nog := fun a ha => by show upd g.G p o a = none; rw [upd_ne (ne_mem ha h2)]; exact r.nog a ha
  nd := r.nd
  ok := fun a ha => by rw [upd_ne (ne_mem ha h2)]; exact r.ok a ha
theorem Stp.lockL {g g' : Gh} {H H' : Hp} (t : Stp g H g' H') {p : Addr} (o : HO) (hp : H p = none) (h1 : g'.G p = none) : Stp g H ⟨upd g'.G p o, g'.B⟩ (upd H' p o) where
  gs := (t.keepL o hp h1).gs
  n := (t.keepL o hp h1).n
  b := t.b
  f := fun a o' e n => by
    rw [upd_ne (fun z => by rw [z, hp] at e; cases e)]
    exact t.f a o' e n
/-- a fresh list that goes to the store -/
theorem StR.alloc {K : Frag} {g : Gh} {H : Hp} {S : Sto} (r : StR K g H S) {p : Addr} {vs : List V} {xs : List PV} (e : H p = some (.lst vs)) (q : Rps K g vs xs) (h1 : g.G p = none) (h2 : p ∉ g.B) : StR K ⟨g.G, g.B ++ [p]⟩ H (S ++ [.lst xs]) where
  sub := r.sub
  len := by simp [r.len]
  ob := fun n a mo e1 e2 => by
    have hb : ∀ (n : Nat) (a : Addr), g.B[n]? = some a → (g.B ++ [p])[n]? = some a := fun n a h => by rw [List.getElem?_append_left (List.getElem?_eq_some_iff.mp h).1]; exact h
    by_cases hn : n < g.B.length
    · have e1' : (g.B ++ [p])[n]? = some a := e1
      rw [List.getElem?_append_left hn] at e1'
      rw [List.getElem?_append_left (by rw [← r.len]; exact hn)] at e2
      exact (r.ob n a mo e1' e2).keep (fun _ h => h) (fun _ _ h => h) hb
    · have e1' : (g.B ++ [p])[n]? = some a := e1
      rw [List.getElem?_append_right (by omega)] at e1'
      rw [List.getElem?_append_right (by rw [← r.len]; omega)] at e2
      have n0 : n - g.B.length = 0 := by
        have := (List.getElem?_eq_some_iff.mp e1').1
        simpa using this
      rw [n0] at e1'
      rw [← r.len, n0] at e2
      simp at e1' e2
      subst e1' e2
      exact .lst e (Rps.mono (g := g) (g' := ⟨g.G, g.B ++ [p]⟩) (fun _ _ h => h) hb q)
  nog := fun a ha => by
    rcases List.mem_append.mp ha with h | h
    · exact r.nog a h
    · rw [List.mem_singleton.mp h]; exact h1
  nd := by
    rw [List.nodup_append]
    refine ⟨r.nd, by simp, fun a ha b hb => ?_⟩
    rw [List.mem_singleton.mp hb]
    exact ne_mem ha h2
  ok := fun a ha => by
    rcases List.mem_append.mp ha with h | h
    · exact r.ok a h
    · rw [List.mem_singleton.mp h, e]; simp
theorem Stp.alloc {g g' : Gh} {H H' : Hp} (t : Stp g H g' H') {p : Addr} (hp : H p = none) : Stp g H ⟨g'.G, g'.B ++ [p]⟩ H' where
  gs := t.gs
  n := t.n
  b := by
    obtain ⟨m, e, q⟩ := t.b
    refine ⟨m ++ [p], by rw [← List.append_assoc, ← e], fun a ha => ?_⟩
    rcases List.mem_append.mp ha with h | h
    · exact q a h
    · rw [List.mem_singleton.mp h]; exact hp
  f := t.f

theorem ownN_snd (N : List Str) : ∀ l : List Nat, (ownN N l).map (·.2) = l
  | [] => rfl
  | i :: r => by simp [ownN, ownN_snd N r]
theorem wipe_in {σ σ' : L2.St} {l : List Nat} {ts : List Nat} (h : ∀ j ∈ ts, j ∈ l) (s : SetIn ts (wipe σ l) σ') : wipe σ' l = wipe σ l := by
  have hl : ∀ (σ : L2.St) (l : List Nat) (j : Nat), j ∈ l → j < σ.length → (wipe σ l)[j]? = some none := by
    intro σ l
    induction l with
    | nil => intro j hj; cases hj
    | cons i r ih =>
      intro j hj hlt
      unfold wipe
      by_cases e : i = j
      · subst e; rw [List.getElem?_set_self (by rw [wipe_length]; exact hlt)]
      · rw [List.getElem?_set_ne e]
        exact ih j (by rcases List.mem_cons.mp hj with z | z; exact absurd z.symm e; exact z) hlt
  obtain ⟨s1, s2⟩ := s
  rw [wipe_length] at s1
  apply List.ext_getElem?
  intro j
  by_cases hj : j ∈ l
  · by_cases hlt : j < σ.length
    · rw [hl σ l j hj hlt, hl σ' l j hj (by rw [s1]; exact hlt)]
    · rw [List.getElem?_eq_none (by rw [wipe_length, s1]; omega), List.getElem?_eq_none (by rw [wipe_length]; omega)]
  · rw [wipe_out2 hj, s2 j fun z => hj (h j z), wipe_out2 hj]

section
variable {D : Dat} {c : Ct} {n : Nat}
/-- what a look-up of a constant, a def, a free name gives -/
theorem glo_of {X : Cx} {x : Str} (h : gloC X.env.scope.names x = true) : Gl X x := by
  unfold gloC at h
  split at h
  case h_1 e => exact e
  case h_2 => cases h
theorem free_of {X : Cx} {x : Str} (o : OkX D c n X) (h : freeC D X.env.scope.names x = true) : Gl X x ∧ X.mg x = none := by
  unfold freeC at h
  rw [Bool.and_eq_true, List.any_eq_true] at h
  obtain ⟨h1, y, h2, h3⟩ := h
  exact ⟨glo_of h1, by rw [← eqS_ok h3]; exact o.free y h2⟩
theorem vis_of {X : Cx} {x : Str} (h : visC X.env.scope.names x = true) : Vis X.env.scope x := by
  unfold visC at h
  split at h
  case h_1 e => exact .inl e
  case h_2 e => exact .inr (.inl e)
  case h_3 e => exact .inr (.inr e)
  case h_4 => cases h
theorem okN_of {x : Str} (h : okN x = true) : (x == ("__debug__" : Str)) = false ∧ (x == ("__classdict__" : Str)) = false ∧ x ≠ "__name__" := by
  unfold okN at h
  simp only [Bool.and_eq_true, Bool.not_eq_true'] at h
  exact ⟨h.1.1, h.1.2, fun z => by rw [z] at h; exact absurd h.2 (by simp)⟩
/-- two operands, one behind the other -/
theorem op2 {X : Cx} {c : Ct} {a b : O} {R : R2} {σ : L2.St} {H : Hp} {Q : VK} {g : Gh} {ρ : Env} {S S1 S2 : Sto} {H0 : Hp} {p q : PV} (at_ : At X.K H σ g ρ S H0) (e1 : evO c a ρ S = .ok p S1) (e2 : evO c b ρ S1 = .ok q S2)
    (k : ∀ g' x y H', Stp g H g' H' → StR X.K g' H' S2 → RdO X.K g' H' x p → RdO X.K g' H' y q → R x y H' Q) : tOp R (tO X.K c a) (tO X.K c b) σ H Q :=
  ⟨g, ρ, S, H0, p, S1, at_, e1, fun g1 v1 H1 t1 st1 r1 => ⟨g1, ρ, S1, H0, q, S2, at_.after t1 st1, e2, fun g2 v2 H2 t2 st2 r2 => k g2 v1 v2 H2 (t1.tr t2 at_.st st1) st2 (r1.stp t2) r2⟩⟩
end
end Mn
end

section
set_option Elab.async false
set_option linter.all false
set_option autoImplicit false
set_option maxRecDepth 100000
set_option maxHeartbeats 4000000
/-! MnOps3: sorted, counts and places in lists, dicts of pairs. -/

/-! ### tuples by their first item, a text -/
namespace Mns
open PySem PySem.Spec PyProof.Rows SrtO Srt
section
variable {prog : Program} {w : World} {A : Around} {E : Value → Shared → Prop} {s : Shared}
/-- a tuple that begins with a text -/
def IsHd (h : Heap) (v : Value) (x : Str) : Prop := ∃ a o t r n, v = .ref a ∧ h.get? a = some o ∧ o.cls = .type "tuple" ∧ o.data = .seq (Value.str x t :: r).toArray n
theorem IsHd.keeps {h h' : Heap} {v : Value} {x : Str} (p : IsHd h v x) (k : ∀ b o, h.get? b = some o → o.cls = .type "tuple" → h'.get? b = some o) : IsHd h' v x := by
  obtain ⟨a, o, t, r, n, e, ho, hc, hd⟩ := p
  exact ⟨a, o, t, r, n, e, k _ _ ho hc, hc, hd⟩
def ltH (k : Value → Str) (v u : Value) : Bool := decide ((k v).cps.toList < (k u).cps.toList)
theorem swo_h (k : Value → Str) : Swo (ltH k) := by
  refine ⟨fun x y h => ?_, fun x y z h1 h2 => ?_⟩
  · have := of_decide_eq_true h
    exact decide_eq_false (List.lt_asymm this)
  · have a := of_decide_eq_false h1
    have b := of_decide_eq_false h2
    refine decide_eq_false ?_
    have a' : (k x).cps.toList ≤ (k y).cps.toList := a
    have b' : (k y).cps.toList ≤ (k z).cps.toList := b
    exact List.le_trans a' b'
theorem lex_self {b : Bool} {Q : Bool → Shared → Prop} (h : Q false s) : ∀ (l : List Value) (i : Nat), PySem.W.KatLex prog w A b false Q (l.zip l) i s
  | [], i => PySem.W.kat_nil h
  | v :: r, i => PySem.W.kat_cons (SeqAt.EqAt.same v prog w _ _ (PySem.W.kat_yes (lex_self h r (i + 1))))
theorem hd_cmp {vs : List Value} {k : Value → Str} (hp : ∀ v ∈ vs, IsHd s.heap v (k v)) (hd : ∀ v ∈ vs, ∀ u ∈ vs, k v = k u → v = u) : Cmp prog w A s (tuples' true) (fun p => p.1 ∈ vs) (lt2 (ltH k)) := by
  intro p q hm hm'
  have h1 := hp _ hm
  have h2 := hp _ hm'
  show wpAny (model prog w) A (keyLt' (tuples' true) p.1 q.1) (fun r s' => s' = s ∧ r = ltH k p.1 q.1) (fun _ _ => False) s
  by_cases he : k p.1 = k q.1
  · have e1 := hd _ hm _ hm' he
    have e2 : ltH k p.1 q.1 = false := by unfold ltH; rw [he]; exact decide_eq_false (List.lt_irrefl _)
    rw [e2, ← e1]
    obtain ⟨a, o, t, r, n, e, ho, hc, hdt⟩ := h1
    rw [e]
    refine PySem.W.kat_lt ho hdt ho hdt ?_
    have : decide ((Value.str (k p.1) t :: r).toArray.size < (Value.str (k p.1) t :: r).toArray.size) = false := decide_eq_false (Nat.lt_irrefl _)
    rw [this]
    exact lex_self ⟨rfl, rfl⟩ _ 0
  · have e2 : ∀ {x : Str} {y : Str}, k p.1 = x → k q.1 = y → ltH k p.1 q.1 = decide (x.cps.toList < y.cps.toList) := fun a b => by unfold ltH; rw [a, b]
    obtain ⟨a, o, t, r, n, e, ho, hc, hdt⟩ := h1
    obtain ⟨a', o', t', r', n', e', ho', hc', hdt'⟩ := h2
    have e3 := e2 rfl rfl
    rw [e] at he e3 hdt
    rw [e'] at he e3 hdt'
    rw [e, e', e3]
    refine PySem.W.kat_lt ho hdt ho' hdt' ?_
    refine PySem.W.kat_cons (SeqAt.EqAt.str_str _ t _ t' prog w _ _ ?_)
    refine PySem.W.kat_go (fun e1 => ?_) (fun e1 => ?_)
    · exact absurd (by simpa using e1) he
    · exact PySem.W.kat_no (oneLt_any_str ⟨rfl, rfl⟩)
theorem firsts_hd {h : Heap} {k : Value → Str} : ∀ {vs : List Value}, (∀ v ∈ vs, IsHd h v (k v)) → ∃ fs : List Value, PySem.W.KatTups h vs fs ∧ fs.length = vs.length ∧ ∀ f ∈ fs, ∃ x t, f = Value.str x t
  | [], _ => ⟨[], PySem.W.KatTups.nil, rfl, fun _ hm => by simp at hm⟩
  | v :: vs, hp => by
    obtain ⟨fs, h1, h2, h3⟩ := firsts_hd (vs := vs) fun v' hm => hp v' (List.mem_cons_of_mem _ hm)
    obtain ⟨a, o, t, r, n, e, ho, hc, hd⟩ := hp v (List.mem_cons_self ..)
    have e0 : (Value.str (k v) t :: r).toArray[0]? = some (.str (k v) t) := by simp
    generalize k v = x at *
    subst e
    refine ⟨.str x t :: fs, PySem.W.KatTups.cons ho hc hd e0 h1, by rw [List.length_cons, List.length_cons, h2], fun f hm => ?_⟩
    rcases List.mem_cons.mp hm with rfl | hm
    · exact ⟨x, t, rfl⟩
    · exact h3 f hm
theorem hd_sortable {a : Addr} {vs : List Value} {k : Value → Str} (h0 : 0 < vs.length) (hp : ∀ v ∈ vs, IsHd s.heap v (k v)) (hd : ∀ v ∈ vs, ∀ u ∈ vs, k v = k u → v = u) (ha : ∀ o, s.heap.get? a = some o → o.cls ≠ .type "tuple") : SortableO prog w A s a vs (ltH k) := by
  intro h' keep
  have hp' : ∀ v ∈ vs, IsHd h' v (k v) := fun v hm => (hp v hm).keeps fun b o e c => keep b o (fun z => by subst z; exact ha o e c) e
  obtain ⟨fs, h1, h2, h3⟩ := firsts_hd hp'
  refine ⟨tuples' true, fun Q E hq => ?_, hd_cmp hp' hd⟩
  refine PySem.W.kat_kind (T := .type "str") h1 (by omega) (fun f hm => ?_) (by rfl) ?_
  · obtain ⟨x, t, rfl⟩ := h3 f hm
    exact PySem.W.Looks.now
  · have e : (Value.type "str" != Value.type "tuple") = true := by first | decide +kernel | rfl | decide
    rw [e]
    exact hq
theorem sorted_hd {l : Addr} {vs : List Value} {k : Value → Str} {Q : Value → Shared → Prop} (hl : s.heap.IsList l vs.toArray) (hz : vs.length ≤ sizeLine) (hp : ∀ v ∈ vs, IsHd s.heap v (k v)) (hd : ∀ v ∈ vs, ∀ u ∈ vs, k v = k u → v = u)
    (h : ∀ (h' : Heap) (d : Addr) (out : List Value), Srtd (ltH k) out → Stb (ltH k) out vs → (∀ b o, s.heap.get? b = some o → h'.get? b = some o) → s.heap.objs.size ≤ d → (∃ n, h'.get? d = some (seqObj "list" out.toArray n)) → Q (.ref d) { s with heap := h' }) :
    wpAny (model prog w) A (call (.builtin "sorted") [.ref l]) Q E s := by
  refine sorted_ord (swo_h k) hl hz (fun h2 h₁ a ha kk => ?_) fun out hs hb => ?_
  · refine hd_sortable (s := { s with heap := h₁ }) (by omega) (fun v hm => (hp v hm).keeps fun b o e _ => (kk b o e).2) hd fun o e => ?_
    have e' : some o = some (seqObj "list" vs.toArray 0) := e.symm.trans ha
    cases e'
    intro c
    exact absurd (Value.type.inj c) (by decide)
  · exact h _ _ out hs hb (fun b o e => sortedAll_old e) (Nat.le_succ _) (sortedAll_at s.heap vs out.toArray)
end
end Mns

namespace Mn
open PySem PySem.Spec PyProof.Rows L2
/-! ### what srtB gives -/
section
variable {α : Type} {lt : α → α → Bool}
theorem insB_perm (x : α) : ∀ l : List α, (insB lt x l).Perm (x :: l)
  | [] => .refl _
  | y :: r => by
    unfold insB
    split
    · exact .refl _
    · exact ((insB_perm x r).cons y).trans (.swap x y r)
theorem srtB_perm : ∀ l : List α, (srtB lt l).Perm l
  | [] => .refl _
  | x :: r => (insB_perm x (srtB lt r)).trans ((srtB_perm r).cons x)
theorem insB_srtd (O : SrtO.Swo lt) (x : α) : ∀ l : List α, SrtO.Srtd lt l → SrtO.Srtd lt (insB lt x l)
  | [], _ => SrtO.srtd_one x
  | y :: r, h => by
    unfold insB
    split
    · rename_i hx
      refine List.pairwise_cons.mpr ⟨fun z hz => O.asym _ _ (O.lt_all h hx z hz), h⟩
    · rename_i hx
      have hx : lt x y = false := by simpa using hx
      have hr := (List.pairwise_cons.mp h)
      refine List.pairwise_cons.mpr ⟨fun z hz => ?_, insB_srtd O x r hr.2⟩
      rcases List.mem_cons.mp ((insB_perm (lt := lt) x r).mem_iff.mp hz) with rfl | hz
      · exact hx
      · exact hr.1 z hz
theorem srtB_srtd (O : SrtO.Swo lt) : ∀ l : List α, SrtO.Srtd lt (srtB lt l)
  | [] => .nil
  | x :: r => insB_srtd O x _ (srtB_srtd O r)
end
theorem swo_I : SrtO.Swo ltI := ⟨fun x y h => by unfold ltI at *; simp at *; omega, fun x y z h1 h2 => by unfold ltI at *; simp at *; omega⟩
theorem swo_S : SrtO.Swo ltSg := by
  refine ⟨fun x y h => ?_, fun x y z h1 h2 => ?_⟩
  · rw [ltSg_iff] at *
    exact decide_eq_false (List.lt_asymm (of_decide_eq_true h))
  · rw [ltSg_iff] at *
    have a : x ≤ y := of_decide_eq_false h1
    have b : y ≤ z := of_decide_eq_false h2
    exact decide_eq_false (List.le_trans a b)
theorem uniq_I {a b : List Int} (h : a.Perm b) (h1 : a.Pairwise (· ≤ ·)) : a = srtB ltI b := by
  refine List.Perm.eq_of_pairwise (le := (· ≤ ·)) (fun x y _ _ p q => Int.le_antisymm p q) h1 ?_ (h.trans (srtB_perm b).symm)
  exact (srtB_srtd swo_I b).imp fun h => by unfold ltI at h; simpa using h
theorem uniq_S {a b : List Sg} (h : a.Perm b) (h1 : SrtO.Srtd ltSg a) : a = srtB ltSg b := by
  refine List.Perm.eq_of_pairwise (le := fun x y => ltSg y x = false) (fun x y _ _ p q => ?_) h1 (srtB_srtd swo_S b) (h.trans (srtB_perm b).symm)
  rw [ltSg_iff] at p q
  exact List.le_antisymm (of_decide_eq_false p : x ≤ y) (of_decide_eq_false q : y ≤ x)
theorem uniq_H {α : Type} {f : α → Sg} {a b : List α} (h : a.Perm b) (h1 : SrtO.Srtd (fun p q => ltSg (f p) (f q)) a) (hd : ∀ x ∈ b, ∀ y ∈ b, f x = f y → x = y) : a = srtB (fun p q => ltSg (f p) (f q)) b := by
  have O : SrtO.Swo (fun p q : α => ltSg (f p) (f q)) := ⟨fun x y => swo_S.asym _ _, fun x y z => swo_S.tr _ _ _⟩
  refine List.Perm.eq_of_pairwise (le := fun x y => ltSg (f y) (f x) = false) (fun x y hx hy p q => ?_) h1 (srtB_srtd O b) (h.trans (srtB_perm b).symm)
  rw [ltSg_iff] at p q
  exact hd x (h.mem_iff.mp hx) y ((srtB_perm b).mem_iff.mp hy) (List.le_antisymm (of_decide_eq_false p : f x ≤ f y) (of_decide_eq_false q : f y ≤ f x))
theorem ltCps_eq : ∀ x y : List Nat, ltCps x y = ltSg x y
  | [], [] => rfl
  | [], _ :: _ => rfl
  | _ :: _, [] => rfl
  | a :: x, b :: y => by
    simp only [ltCps, ltSg, ltCps_eq x y]
    congr 1
    rw [Bool.eq_iff_iff]
    simp
theorem rising_pw : ∀ (x : Str) (r : List Str), risingS x r = true → SrtO.Srtd ltSg ((x :: r).map fun z => z.cps.toList)
  | x, [], _ => SrtO.srtd_one _
  | x, y :: r, h => by
    unfold risingS at h
    rw [Bool.and_eq_true] at h
    have ih := rising_pw y r h.2
    have hx : ltSg y.cps.toList x.cps.toList = false := by
      have := h.1
      rw [ltCps_eq] at this
      simpa using this
    simp only [List.map_cons] at ih ⊢
    refine List.pairwise_cons.mpr ⟨fun z hz => ?_, ih⟩
    rcases List.mem_cons.mp hz with rfl | hz
    · exact hx
    · exact swo_S.tr _ _ _ hx ((List.pairwise_cons.mp ih).1 z hz)
theorem sortedS_pw : ∀ l : List Str, sortedS l = true → SrtO.Srtd ltSg (l.map fun z => z.cps.toList)
  | [], _ => .nil
  | x :: r, h => rising_pw x r h
theorem toS_un (l : List Str) : (l.map fun z : Str => z.cps.toList).map toS = l := by
  rw [List.map_map]
  exact List.map_id'' (fun z => by obtain ⟨⟨z⟩⟩ := z; rfl) l
theorem un_toS (l : List Sg) : (l.map toS).map (fun z : Str => z.cps.toList) = l := by
  rw [List.map_map]
  exact List.map_id'' (fun z => rfl) l
theorem uniq_T {ys : List Str} {ss : List Sg} (h : ys.Perm (ss.map toS)) (h1 : sortedS ys = true) : ys = (srtB ltSg ss).map toS := by
  have p := h.map fun z : Str => z.cps.toList
  rw [un_toS] at p
  rw [← uniq_S p (sortedS_pw ys h1), toS_un]
theorem rps_ints {K : Frag} {g : Gh} : ∀ ns : List Int, Rps K g (ns.map V.int) (ns.map .int)
  | [] => .nil
  | n :: r => .cons (.int n) (rps_ints r)
theorem rps_sgs {K : Frag} {g : Gh} : ∀ ns : List Sg, Rps K g ((ns.map toS).map V.str) (ns.map .str)
  | [] => .nil
  | n :: r => .cons (.str n) (rps_sgs r)
theorem kyS_inr : ∀ {ks : List Ky} {ss : List Sg}, kyS ks = some ss → ks.map kyK = (ss.map toS).map Sum.inr
  | [], ss, h => by simp [kyS] at h; subst h; rfl
  | .s x :: r, ss, h => by
    simp only [kyS, Option.map_eq_some_iff] at h
    obtain ⟨q, h1, rfl⟩ := h
    simp [kyK, kyS_inr h1]
  | .i _ :: _, _, h => by simp [kyS] at h
theorem kyI_inl : ∀ {ks : List Ky} {ss : List Int}, kyI ks = some ss → ks.map kyK = ss.map Sum.inl
  | [], ss, h => by simp [kyI] at h; subst h; rfl
  | .i x :: r, ss, h => by
    simp only [kyI, Option.map_eq_some_iff] at h
    obtain ⟨q, h1, rfl⟩ := h
    simp [kyK, kyI_inl h1]
  | .s _ :: _, _, h => by simp [kyI] at h
theorem heads_rp {K : Frag} {g : Gh} : ∀ {xs : List PV} {hs : List Sg} {vs : List V}, headsOf xs = some hs → Rps K g vs xs → hs = xs.map hdS ∧ ∀ v p, (v, p) ∈ vs.zip xs → ∃ a x r ws, v = .ref a ∧ p = .tup (.str x :: r) ∧ SqT K g.G a (.str (toS x) :: ws)
  | [], _, _, h, r => by simp [headsOf] at h; subst h; cases r; exact ⟨rfl, fun v p h => by simp at h⟩
  | p :: xs, hs, _, h, r => by
    cases r with
    | cons a b =>
      cases p with
      | tup ys =>
        cases ys with
        | nil => simp [headsOf] at h
        | cons y ys =>
          cases y with
          | str x =>
            simp only [headsOf, Option.map_eq_some_iff] at h
            obtain ⟨q, h1, rfl⟩ := h
            obtain ⟨e1, e2⟩ := heads_rp h1 b
            refine ⟨by rw [e1]; rfl, fun v p hm => ?_⟩
            rw [List.zip_cons_cons] at hm
            rcases List.mem_cons.mp hm with e | hm
            · cases e
              cases a with
              | tup s r =>
                cases r with
                | cons c d =>
                  cases c
                  exact ⟨_, _, _, _, rfl, rfl, s⟩
            · exact e2 v p hm
          | _ => simp [headsOf] at h
      | _ => simp [headsOf] at h
theorem nodupB_ok : ∀ {l : List Sg}, nodupB l = true → l.Nodup
  | [], _ => .nil
  | x :: r, h => by
    simp only [nodupB, Bool.and_eq_true, Bool.not_eq_true', List.contains_eq_mem, decide_eq_false_iff_not] at h
    exact List.nodup_cons.mpr ⟨h.1, nodupB_ok h.2⟩

theorem nodup_inj {α β : Type} {f : α → β} : ∀ {l : List α}, (l.map f).Nodup → ∀ x ∈ l, ∀ y ∈ l, f x = f y → x = y
  | [], _, _, h, _, _, _ => by cases h
  | a :: r, h, x, hx, y, hy, e => by
    simp only [List.map_cons, List.nodup_cons, List.mem_map, not_exists, not_and] at h
    rcases List.mem_cons.mp hx with ex | hx2
    · rcases List.mem_cons.mp hy with ey | hy2
      · rw [ex, ey]
      · rw [ex] at e
        exact absurd e.symm (h.1 y hy2)
    · rcases List.mem_cons.mp hy with ey | hy2
      · rw [ey] at e
        exact absurd e (h.1 x hx2)
      · exact nodup_inj h.2 x hx2 y hy2 e
theorem rps_of {K : Frag} {g : Gh} : ∀ (T : List (Value × V × PV)), (∀ t ∈ T, Rp K g t.2.1 t.2.2) → Rps K g (T.map (·.2.1)) (T.map (·.2.2))
  | [], _ => .nil
  | t :: r, h => .cons (h t List.mem_cons_self) (rps_of r fun u hu => h u (List.mem_cons_of_mem _ hu))
theorem vals_of : ∀ (T : List (Value × V × PV)), (∀ t ∈ T, RelV t.2.1 t.1) → Vals (T.map (·.2.1)) (T.map (·.1))
  | [], _ => .nil
  | t :: r, h => .cons (h t List.mem_cons_self) (vals_of r fun u hu => h u (List.mem_cons_of_mem _ hu))
section
variable {X : Cx}
def RSrt (X : Cx) : List V → Hp → VK → Prop := fun vs H Q => ∃ g S v p ys, vs = [v] ∧ StR X.K g H S ∧ Lk X.K g H v p ∧ srtPV p = some ys ∧ ∀ l ws, H l = none → Rps X.K g ws ys → Q (.ref l) (upd H l (.lst ws))
theorem tri {K : Frag} {g : Gh} {pins : List (Addr × Obj)} {σ : L2.St} {H : Hp} {s : Shared} {X : Cx} (I : Inv X pins σ H s) (hK : X.K = K) (hs : ∀ a o, g.G a = some o → H a = some o) :
    ∀ {vs : List V} {us : List Value} {xs : List PV} {hd : List Sg}, headsOf xs = some hd → Rps K g vs xs → Vals vs us →
      ∃ T : List (Value × V × PV), us = T.map (·.1) ∧ vs = T.map (·.2.1) ∧ xs = T.map (·.2.2) ∧ ∀ t ∈ T, Rp K g t.2.1 t.2.2 ∧ ∃ a x r, t.1 = .ref a ∧ t.2.1 = .ref a ∧ t.2.2 = .tup (.str x :: r) ∧ Mns.IsHd s.heap (.ref a) (toS x)
  | [], us, xs, hd, h, r, v => by
    cases r
    cases v
    exact ⟨[], rfl, rfl, rfl, fun t ht => by cases ht⟩
  | w :: vs, us, xs, hd, h, r, v => by
    cases r with
    | @cons _ _ p xs' a b =>
      cases v with
      | cons c d =>
        cases p with
        | tup ys =>
          cases ys with
          | nil => simp [headsOf] at h
          | cons y ys =>
            cases y with
            | str x =>
              simp only [headsOf, Option.map_eq_some_iff] at h
              obtain ⟨q, h1, _⟩ := h
              obtain ⟨T, e1, e2, e3, e4⟩ := tri I hK hs h1 b d
              have a0 := a
              cases a with
              | tup sq rr =>
                cases rr with
                | cons c1 d1 =>
                  cases c1
                  have sq' := sqt_mono hs sq
                  rw [← hK] at sq'
                  obtain ⟨its, rv, ⟨o, ho, hc, n, hdt⟩, hz⟩ := I.tuple sq'
                  cases rv with
                  | cons c2 d2 =>
                    obtain ⟨t, rfl⟩ := c2
                    cases (show _ = Value.ref _ from c)
                    refine ⟨(_, _, _) :: T, by rw [e1]; rfl, by rw [e2]; rfl, by rw [e3]; rfl, fun u hu => ?_⟩
                    rcases List.mem_cons.mp hu with rfl | hu
                    · exact ⟨a0, _, x, ys, rfl, rfl, rfl, _, o, t, _, n, rfl, ho, hc, hdt⟩
                    · exact e4 u hu
            | _ => simp [headsOf] at h
        | _ => simp [headsOf] at h
theorem call_srt (hc : X.calm = true) : CallR X (.builtin "sorted") (RSrt X) := by
  intro pins s σ H vs us Q I rx h
  obtain ⟨g, S, v, p, ys, rfl, st, lk, e, k⟩ := h
  cases lk <;> simp only [srtPV, reduceCtorEq] at e
  case lst a vs xs sx r =>
    unfold srtL at e
    split at e
    case h_1 ns hn =>
      injection e with e; subst e
      have := r.toI hn
      subst this
      refine cr_sortedI pins s σ H _ us Q I rx ⟨_, ns, rfl, sx.l, fun ns' p hp hpw hnew => ?_⟩
      rw [uniq_I hp hpw]
      exact k p _ hnew (rps_ints _)
    case h_2 =>
      split at e
      case h_1 ss hn =>
        split at e
        case isFalse => cases e
        case isTrue hl =>
          injection e with e; subst e
          have := r.toT hn
          subst this
          refine cr_sortedS pins s σ H _ us Q I rx ⟨_, ss.map toS, rfl, sx.l, by have := Nat.le_of_ble_eq_true hl; rw [List.length_map]; exact this, fun ys p hp hpw hnew => ?_⟩
          rw [uniq_T hp hpw]
          exact k p _ hnew (rps_sgs _)
      case h_2 =>
        split at e
        case h_2 => cases e
        case h_1 hd hh =>
          split at e
          case isFalse => cases e
          case isTrue hn =>
            injection e with e
            have hn := nodupB_ok hn
            obtain ⟨u, rfl, ru⟩ := vals1 rx
            obtain rfl : u = Value.ref a := ru
            obtain ⟨its, rv, hl, hz⟩ := I.list sx.l
            obtain ⟨T, e1, e2, e3, e4⟩ := tri I rfl st.sub hh r rv
            have hhd : hd = xs.map hdS := (heads_rp hh r).1
            have hnx : (xs.map hdS).Nodup := by rw [← hhd]; exact hn
            classical
            obtain ⟨kf, hkf⟩ : ∃ kf : Value → Str, ∀ t ∈ T, kf t.1 = toS (hdS t.2.2) := by
              refine ⟨fun u => if h : ∃ x, Mns.IsHd s.heap u x then h.choose else ⟨#[]⟩, fun t ht => ?_⟩
              obtain ⟨_, b, x, q, z1, z2, z3, z4⟩ := e4 t ht
              have hex : ∃ x, Mns.IsHd s.heap t.1 x := ⟨_, by rw [z1]; exact z4⟩
              show (if h : ∃ x, Mns.IsHd s.heap t.1 x then h.choose else _) = _
              rw [dif_pos hex, z3]
              have hc := hex.choose_spec
              generalize hex.choose = y at hc
              rw [z1] at hc
              obtain ⟨a1, o1, t1, r1, n1, f1, f2, f3, f4⟩ := hc
              obtain ⟨a2, o2, t2, r2, n2, g1, g2, g3, g4⟩ := z4
              cases f1
              cases g1
              rw [f2] at g2
              cases g2
              rw [f4] at g4
              injection g4 with g4 _
              have := congrArg Array.toList g4
              simp only [List.cons.injEq, Value.str.injEq] at this
              exact this.1.1
            have mk : its.map (fun u => (kf u).cps.toList) = xs.map hdS := by
              rw [e1, e3, List.map_map, List.map_map]
              refine List.map_congr_left fun t ht => ?_
              show (kf t.1).cps.toList = hdS t.2.2
              rw [hkf t ht]
            have inj : ∀ u ∈ its, ∀ w ∈ its, kf u = kf w → u = w := fun u hu w hw z => nodup_inj (f := fun u => (kf u).cps.toList) (by rw [mk]; exact hnx) u hu w hw (by show (kf u).cps.toList = _; rw [z])
            have isH : ∀ u ∈ its, Mns.IsHd s.heap u (kf u) := fun u hu => by
              rw [e1] at hu
              obtain ⟨t, ht, rfl⟩ := List.mem_map.mp hu
              rw [hkf t ht]
              obtain ⟨_, b, x, q, z1, z2, z3, z4⟩ := e4 t ht
              rw [z1, z3]
              exact z4
            refine Mns.sorted_hd (k := kf) hl.isList (by rw [← rv.length]; exact hz) isH inj fun h' d out h1 h2 kp hdl hnn => ?_
            obtain ⟨n, hnn⟩ := hnn
            have O2p : (srtB (fun a b : Value × V × PV => ltSg (hdS a.2.2) (hdS b.2.2)) T).Perm T := srtB_perm _
            have OS : SrtO.Swo (fun a b : Value × V × PV => ltSg (hdS a.2.2) (hdS b.2.2)) := ⟨fun x y => swo_S.asym _ _, fun x y z => swo_S.tr _ _ _⟩
            have O2s := srtB_srtd OS T
            generalize srtB (fun a b : Value × V × PV => ltSg (hdS a.2.2) (hdS b.2.2)) T = T2 at O2p O2s
            have eo : out = T2.map (·.1) := by
              have p1 : out.Perm its := h2.perm
              have s1 : SrtO.Srtd (fun u w => ltSg ((kf u).cps.toList) ((kf w).cps.toList)) out := h1.imp fun h => by
                show ltSg _ _ = false
                rw [ltSg_iff]
                exact h
              have inj' : ∀ u ∈ its, ∀ w ∈ its, (kf u).cps.toList = (kf w).cps.toList → u = w := fun u hu w hw z => nodup_inj (f := fun u => (kf u).cps.toList) (by rw [mk]; exact hnx) u hu w hw z
              have p2 : (T2.map (·.1)).Perm its := by rw [e1]; exact O2p.map _
              have s2 : SrtO.Srtd (fun u w => ltSg ((kf u).cps.toList) ((kf w).cps.toList)) (T2.map (·.1)) := by
                refine List.pairwise_map.mpr (List.Pairwise.imp_of_mem (fun {a b} ha hb h => ?_) O2s)
                have ha := O2p.mem_iff.mp ha
                have hb := O2p.mem_iff.mp hb
                show ltSg _ _ = false
                rw [hkf a ha, hkf b hb]
                exact h
              rw [uniq_H p1 s1 inj', ← uniq_H p2 s2 inj']
            have ey : ys = T2.map (·.2.2) := by
              have p2 : (T2.map (·.2.2)).Perm xs := by rw [e3]; exact O2p.map _
              have s2 : SrtO.Srtd (fun u w => ltSg (hdS u) (hdS w)) (T2.map (·.2.2)) := List.pairwise_map.mpr O2s
              rw [← e, ← uniq_H p2 s2 fun x hx y hy z => nodup_inj hnx x hx y hy z]
            have g4 : ∀ t ∈ T2, Rp X.K g t.2.1 t.2.2 := fun t ht => (e4 t (O2p.mem_iff.mp ht)).1
            have v4 : ∀ t ∈ T2, RelV t.2.1 t.1 := fun t ht => by
              obtain ⟨_, b, x, q, z1, z2, z3, z4⟩ := e4 t (O2p.mem_iff.mp ht)
              rw [z1, z2]
              rfl
            refine ⟨.ref d, upd H d (.lst (T2.map (·.2.1))), I.laid (t' := s.toks) kp hdl ⟨?_, out, n, ?_, hnn⟩, rfl, k d _ (I.hok.fresh hdl) ?_⟩
            · rw [List.length_map, O2p.length_eq, ← List.length_map (f := fun t : Value × V × PV => t.2.1), ← e2]
              exact hz
            · rw [eo]
              exact vals_of T2 v4
            · rw [ey]
              exact rps_of T2 g4
  case dct a kvs ks xs hx hk r =>
    split at e
    case h_1 ss hs =>
      split at e
      case isFalse => cases e
      case isTrue hl =>
        injection e with e; subst e
        refine call_sortedD hc pins s σ H _ us Q I rx ⟨_, kvs, ss.map toS, rfl, hx, by rw [hk]; exact kyS_inr hs, by have := Nat.le_of_ble_eq_true hl; rw [List.length_map]; exact this, fun ys p hp hpw hnew => ?_⟩
        rw [uniq_T hp hpw]
        exact k p _ hnew (rps_sgs _)
    case h_2 =>
      split at e
      case h_2 => cases e
      case h_1 ns hs =>
        split at e
        case isFalse => cases e
        case isTrue hl =>
          injection e with e; subst e
          refine call_sortedDI hc pins s σ H _ us Q I rx ⟨_, kvs, ns, rfl, hx, by rw [hk]; exact kyI_inl hs, Nat.le_of_ble_eq_true hl, fun ys p hp hpw hnew => ?_⟩
          rw [uniq_I hp hpw]
          exact k p _ hnew (rps_ints _)
/-! ### l.count(x) -/
def rCountD (K : Frag) : V → List V → Hp → VK → Prop := fun x xs H Q => ∃ (a : Addr) (y : V) (d : PyData) (ds : List PyData), x = V.ref a ∧ xs = [y] ∧ Dp K H (V.ref a) (.list ds) ∧ Dp K H y d ∧
  SeqAt.shaped (.list ds) = true ∧ SeqAt.shaped d = true ∧ Q (.int (ds.countP (fun z => PyData.eqv z d) : Nat)) H
theorem mt_countD (hu : X.A.units + 65 < cLine) : MtR X "list.count" (rCountD X.K) := by
  intro pins s σ H x xs v us Q I rx rxs h
  obtain ⟨a, y, d, ds, rfl, rfl, hl, hy, sl, sd, q⟩ := h
  cases rx
  cases rxs with
  | cons ry rt =>
    rename_i uy ut
    cases rt
    obtain ⟨bs, r1⟩ := Dp.reads I d y uy hy ry
    have hxs : PyData.canLayAll0 ds = true := SeqAt.canLay_of_shaped sl
    have hroom : X.A.units + 1 + min (PyData.depthAll ds) d.depth < cLine := room_in_shaped sd hu
    cases hl with
    | lst hs ha =>
      obtain ⟨its, rv, ⟨⟨cls, dd, data, sls⟩, n, ho, hc, hdn, hdt⟩, hlen⟩ := I.list hs
      simp only at hc hdt
      subst hc hdt
      obtain ⟨as, h4⟩ := Dp.readsAll I ds _ its ha rv
      have hmap : its.map (SeqAt.readOf s.heap) = ds := SeqAt.readsAll_map ds its as hxs h4
      refine call_meets PySem.F.slot_list_count ⟨_, ho, rfl⟩ PySem.F.entry_list_count (PySem.F.args_list_count_2 _ _)
        (SeqAt.list_countAt a its.toArray n dd sls uy (fun u => PyData.eqv (SeqAt.readOf s.heap u) d)) ⟨ho, SeqAt.items_eqAt (vs := its.toArray) (show ReadsAll s.heap its.toArray.toList ds as from h4) r1 hxs (SeqAt.canLay_of_shaped sd) hroom, ?_⟩
      have ec : its.toArray.toList.countP (fun u => PyData.eqv (SeqAt.readOf s.heap u) d) = ds.countP (fun z => PyData.eqv z d) := by
        rw [← hmap, List.countP_map]
        rfl
      refine ⟨.int (ds.countP (fun z => PyData.eqv z d) : Nat), H, I.tok _, ⟨s.toks, ?_⟩, q⟩
      show Value.int ((its.toArray.toList.countP (fun u => PyData.eqv (SeqAt.readOf s.heap u) d) : Nat) : Int) s.toks = _
      rw [ec]
theorem count_toD {y : PV} (fy : flat 60 y = true) : ∀ {xs : List PV}, flats 60 xs = true → (toDs xs).countP (fun z => PyData.eqv z (toD y)) = xs.countP fun z => eqPV z y
  | [], _ => by simp [toDs]
  | x :: r, h => by
    simp only [flats, Bool.and_eq_true] at h
    simp only [toDs, List.countP_cons, count_toD fy h.2, eqv_toD x y 60 60 h.1 fy]
theorem find_toD {y : PV} (fy : flat 60 y = true) : ∀ {xs : List PV} {n m : Nat}, flats 60 xs = true → findI y n xs = some m → n ≤ m ∧ ∃ z, (toDs xs)[m - n]? = some z ∧ PyData.eqv z (toD y) = true ∧ ∀ (k : Nat) z', k < m - n → (toDs xs)[k]? = some z' → PyData.eqv z' (toD y) = false
  | [], _, _, _, h => by simp [findI] at h
  | x :: r, n, m, f, h => by
    simp only [flats, Bool.and_eq_true] at f
    simp only [findI] at h
    have e0 := eqv_toD x y 60 60 f.1 fy
    split at h
    case isTrue hx =>
      injection h with h; subst h
      refine ⟨Nat.le_refl _, toD x, by simp [toDs], by rw [e0]; exact hx, fun k z' hk => by omega⟩
    case isFalse hx =>
      obtain ⟨h1, z, h2, h3, h4⟩ := find_toD fy f.2 h
      refine ⟨by omega, z, ?_, h3, fun k z' hk hz => ?_⟩
      · have : m - n = (m - (n + 1)) + 1 := by omega
        rw [this]
        simpa [toDs] using h2
      · cases k with
        | zero =>
          simp [toDs] at hz
          subst hz
          rw [e0]
          simpa using hx
        | succ k => exact h4 k z' (by omega) (by simpa [toDs] using hz)
/-! ### dicts of pairs -/
theorem pairs_rel {K : Frag} {g : Gh} {H : Hp} (hs : ∀ a o, g.G a = some o → H a = some o) : ∀ {xs : List PV} {ps : List (Ky × PV)} {vs : List V}, pairsOf xs = some ps → Rps K g vs xs →
    ∃ (as : List Addr) (kvs : List (Key × V)), vs = as.map V.ref ∧ Paired (fun p kv => SqT K H p [kV kv.1, kv.2]) as kvs ∧ kvs.map (·.1) = ps.map (fun q => kyK q.1) ∧ Rps K g (kvs.map (·.2)) (ps.map (·.2))
  | [], ps, _, h, r => by
    simp [pairsOf] at h; subst h
    cases r
    exact ⟨[], [], rfl, .nil, rfl, .nil⟩
  | p :: xs, ps, _, h, r => by
    cases r with
    | cons a b =>
      match p, h, a with
      | .tup [kp, vp], h, a =>
        simp only [pairsOf, Option.bind_eq_some_iff, Option.map_eq_some_iff] at h
        obtain ⟨ky, hk, q, h1, rfl⟩ := h
        obtain ⟨as, kvs, e1, e2, e3, e4⟩ := pairs_rel hs h1 b
        cases a with
        | @tup ad _ _ s rr =>
          cases rr with
          | @cons v1 _ _ _ c1 d1 =>
            cases d1 with
            | @cons v2 _ _ _ c2 d2 =>
              cases d2
              have hv : v1 = kV (kyK ky) := by
                cases kp <;> simp only [kyOf, Option.some.injEq, reduceCtorEq] at hk <;> subst hk <;> cases c1 <;> rfl
              rw [hv] at s
              exact ⟨ad :: as, (kyK ky, v2) :: kvs, by rw [e1]; rfl, .cons (sqt_mono hs s) e2, by simp [e3], .cons c2 e4⟩
end
theorem any_ky {k : Ky} {kvs : List (Key × V)} {ks : List Ky} (e : kvs.map (·.1) = ks.map kyK) : (kvs.any fun kv => decide (kv.1 = kyK k)) = true ↔ k ∈ ks := by
  have h1 : (kvs.any fun kv => decide (kv.1 = kyK k)) = true ↔ kyK k ∈ kvs.map (·.1) := by
    rw [List.any_eq_true, List.mem_map]
    constructor
    · rintro ⟨x, hx, h⟩
      exact ⟨x, hx, by simpa using h⟩
    · rintro ⟨x, hx, h⟩
      exact ⟨x, hx, by simpa using h⟩
  rw [h1, e, List.mem_map]
  constructor
  · rintro ⟨a, ha, h⟩
    rw [← kyK_inj h]; exact ha
  · intro h
    exact ⟨k, h, rfl⟩
theorem repl_rel {K : Frag} {g : Gh} {k : Ky} {z : V} {p : PV} (rp : Rp K g z p) : ∀ {kvs : List (Key × V)} {ks : List Ky} {xs : List PV}, kvs.map (·.1) = ks.map kyK → Rps K g (kvs.map (·.2)) xs →
    (kvs.map fun kv => if kv.1 = kyK k then (kv.1, z) else kv).map (·.1) = ks.map kyK ∧ Rps K g ((kvs.map fun kv => if kv.1 = kyK k then (kv.1, z) else kv).map (·.2)) (putDv k p ks xs)
  | [], [], _, _, r => by
    cases r
    exact ⟨rfl, .nil⟩
  | [], _ :: _, _, e, _ => by simp at e
  | _ :: _, [], _, e, _ => by simp at e
  | (a, v) :: kvs, b :: ks, xs, e, r => by
    rw [List.map_cons] at r
    cases r with
    | @cons _ _ x xs r1 r2 =>
    simp only [List.map_cons, List.cons.injEq] at e
    obtain ⟨e1, e2⟩ := e
    subst e1
    obtain ⟨h1, h2⟩ := repl_rel (k := k) rp e2 r2
    rw [List.map_cons, List.map_cons, List.map_cons, List.map_cons, h1]
    by_cases hk : b = k
    · subst hk
      rw [if_pos rfl]
      refine ⟨rfl, ?_⟩
      simp only [putDv]
      rw [if_pos trivial]
      exact .cons rp h2
    · have hk' : ¬ kyK b = kyK k := fun q => hk (kyK_inj q)
      rw [if_neg hk']
      refine ⟨rfl, ?_⟩
      simp only [putDv]
      rw [if_neg hk]
      exact .cons r1 h2
theorem put_in {K : Frag} {g : Gh} {k : Ky} {z : V} {p : PV} {kvs : List (Key × V)} {ks : List Ky} {xs : List PV} (rp : Rp K g z p) (e : kvs.map (·.1) = ks.map kyK) (r : Rps K g (kvs.map (·.2)) xs) (h : k ∈ ks) :
    (putK kvs (kyK k) z).map (·.1) = ks.map kyK ∧ Rps K g ((putK kvs (kyK k) z).map (·.2)) (putDv k p ks xs) := by
  unfold putK
  rw [if_pos ((any_ky e).mpr h)]
  exact repl_rel rp e r
theorem put_out {K : Frag} {g : Gh} {k : Ky} {z : V} {p : PV} {kvs : List (Key × V)} {ks : List Ky} {xs : List PV} (rp : Rp K g z p) (e : kvs.map (·.1) = ks.map kyK) (r : Rps K g (kvs.map (·.2)) xs) (h : k ∉ ks) :
    (putK kvs (kyK k) z).map (·.1) = (ks ++ [k]).map kyK ∧ Rps K g ((putK kvs (kyK k) z).map (·.2)) (xs ++ [p]) := by
  unfold putK
  rw [if_neg (fun q => h ((any_ky e).mp q))]
  refine ⟨by simp [e], ?_⟩
  rw [List.map_append]
  exact r.append (.cons rp .nil)
theorem put_rel {K : Frag} {g : Gh} {k : Ky} {z : V} {p : PV} {kvs : List (Key × V)} {ks : List Ky} {xs : List PV} (rp : Rp K g z p) (e : kvs.map (·.1) = ks.map kyK) (r : Rps K g (kvs.map (·.2)) xs) :
    (L2.putK kvs (kyK k) z).map (·.1) = (putKy k p (ks, xs)).1.map kyK ∧ Rps K g ((L2.putK kvs (kyK k) z).map (·.2)) (putKy k p (ks, xs)).2 := by
  unfold putKy
  by_cases h : k ∈ ks
  · simp only [h, if_true]
    exact put_in rp e r h
  · simp only [h, if_false]
    exact put_out rp e r h
theorem merge_rel {K : Frag} {g : Gh} : ∀ {more : List (Key × V)} {ps : List (Ky × PV)} {kvs : List (Key × V)} {d : List Ky × List PV}, more.map (·.1) = ps.map (fun q => kyK q.1) → Rps K g (more.map (·.2)) (ps.map (·.2)) →
    kvs.map (·.1) = d.1.map kyK → Rps K g (kvs.map (·.2)) d.2 → (mergeK kvs more).map (·.1) = (putAll ps d).1.map kyK ∧ Rps K g ((mergeK kvs more).map (·.2)) (putAll ps d).2
  | [], [], kvs, d, _, _, e, r => ⟨e, r⟩
  | [], _ :: _, _, _, h, _, _, _ => by simp at h
  | _ :: _, [], _, _, h, _, _, _ => by simp at h
  | (k, v) :: more, (ky, p) :: ps, kvs, d, h, q, e, r => by
    simp only [List.map_cons, List.cons.injEq] at h
    simp only [List.map_cons] at q
    cases q with
    | cons q1 q2 =>
      obtain ⟨h1, h2⟩ := h
      subst h1
      obtain ⟨x, y⟩ := put_rel (k := ky) q1 e r
      exact merge_rel (kvs := L2.putK kvs (kyK ky) v) (d := putKy ky p d) h2 q2 x y
end Mn
end

section
set_option Elab.async false
set_option linter.all false
set_option autoImplicit false
set_option maxRecDepth 100000
set_option maxHeartbeats 4000000
/-! MnEnum: enumerate of a tuple. -/
namespace Mn
open PySem PySem.Spec PyProof.Rows L2
set_option maxHeartbeats 1000000 in
theorem meets_enumerate_newB1 {v : Value} {o : Obj} {H : Heap → Prop} (B : Begins v o H) :
    Meets (Builtin.«enumerate.__new__» ⟨[.type "enumerate", v], []⟩) (fun _ R s => H s.heap ∧
      R (.ok (.ret (.ref (s.heap.push o).objs.size))) { s with heap := (s.heap.push o).push { cls := .type "enumerate", data := .fields #[.none, .bool false, .ref s.heap.objs.size, rawInt 0, .none, .none] } }) :=
  .of_wp fun prog w A R s h => by
    obtain ⟨hp, g, d, tk, os⟩ := s; obtain ⟨h1, h⟩ := h
    have hsub := sub_enumerate
    have q1 : ∀ {A' : Around} {E : Value → Shared → Prop} {Q : Value → Shared → Prop}, Q (.ref hp.objs.size) ⟨hp.push o, g, d, tk, os⟩ → wpAny (model prog w) A' (pyIter v) Q E ⟨hp, g, d, tk, os⟩ :=
      fun q => B.iter prog w _ _ ⟨hp, g, d, tk, os⟩ _ h1 q
    wp_walk using q1
    refine wpAny_stack_any fun st => wpAny_pure ?_
    split
    · rename_i c _ _ _ _ _
      cases (c == Value.type "enumerate")
      · wp_walk using q1
        exact ⟨_, rfl, h⟩
      · wp_walk using q1
        exact ⟨_, rfl, h⟩
    · wp_walk using q1
      exact ⟨_, rfl, h⟩
theorem call_enumerate_tuple {prog : Program} {w : World} {A : Around} {E : Value → Shared → Prop} {s : Shared} {l : Addr} {items : Array Value} {Q : Value → Shared → Prop} (hL : s.heap.IsTuple l items)
    (h : ∀ h', IsEnum h' (s.heap.objs.size + 1) s.heap.objs.size 0 .none → h'.IsTupleIter s.heap.objs.size l 0 → h'.objs.size = s.heap.objs.size + 2 →
      (∀ b o, s.heap.get? b = some o → h'.get? b = some o) → Q (.ref (s.heap.objs.size + 1)) { s with heap := h' }) :
    wpAny (model prog w) A (call (.type "enumerate") [.ref l]) Q E s := by
  refine callType_new F.called_enumerate (by decide) (F.typeCall_enumerate_1 _) (F.newCall_enumerate_1 _) (fun obj => F.args_object_init_2 obj _) F.entry_enumerate_new
    (meets_enumerate_newB1 (begins_tuple l items)) ⟨hL, ?_⟩
  have hz : (s.heap.push { cls := .type "tuple_iterator", data := .fields #[.ref l, .int 0 0] }).objs.size = s.heap.objs.size + 1 := Heap.size_push ..
  show _ ∧ _
  rw [hz]
  have he : IsEnum ((s.heap.push { cls := .type "tuple_iterator", data := .fields #[.ref l, .int 0 0] }).push
      { cls := .type "enumerate", data := .fields #[.none, .bool false, .ref s.heap.objs.size, rawInt 0, .none, .none] }) (s.heap.objs.size + 1) s.heap.objs.size 0 .none := by
    have := Heap.get?_push_size (s.heap.push { cls := .type "tuple_iterator", data := .fields #[.ref l, .int 0 0] })
      (o := { cls := .type "enumerate", data := .fields #[.none, .bool false, .ref s.heap.objs.size, rawInt 0, .none, .none] }) rfl
    rw [hz] at this; exact this
  refine ⟨⟨_, he, rfl⟩, h _ he ⟨_, Heap.get?_push_of_some _ (Heap.get?_push_size _ rfl), rfl, rfl⟩ (by rw [Heap.size_push, hz]) fun b o x => Heap.get?_push_of_some _ (Heap.get?_push_of_some _ x)⟩

theorem wpAny_pyNext_enum_endT {prog : Program} {w : World} {A : Around} {E : Value → Shared → Prop} {s : Shared} {e it t : Addr} {i : Nat} {items : Array Value} {c : Int} {old : Value} {Q : Option Value → Shared → Prop}
    (hh : A.in1.handled = none) (he : IsEnum s.heap e it c old) (hit : s.heap.IsTupleIter it t i) (ht : s.heap.IsTuple t items) (hn : items.size ≤ i)
    (hQ : ∀ h', Heap.ExtBut it s.heap h' → Q none { s with heap := h' }) : wpAny (model prog w) A (pyNext (.ref e)) Q E s := by
  have hT : s.TypeIs (.ref e) "enumerate" := ⟨_, he, rfl⟩
  unfold pyNext
  refine wpAny_bind (wpAny_attempt (wpAny_callSpecial?_slot (name := Str.ofString "__next__") hT F.slot_enumerate_next
    (wpAny_call_entry F.slot_enumerate_next hT F.entry_enumerate_next ?_ (F.args_enumerate_next_1 _))))
  show wpAny _ _ (field (.ref e) 2 >>= _) _ _ _
  refine wpAny_bind (wpAny_field he rfl (x := .ref it) rfl ?_)
  refine wpAny_bind (wpAny_nextOf_tuple_end hh hit ht (by simpa using hn) fun h' x he' hx' => ?_)
  obtain ⟨o, ho, hc⟩ := hx'
  refine wpAny_bind (wpAny_isInstance (T := "StopIteration") (b := true) ⟨o, ho, hc⟩ isSubtype_stop ?_)
  exact wpAny_pure (hQ _ he')
/-- the tuple at a as it stands at each turn, each item in a new pair -/
def IteT (K : PySem.W.Frag) (a : Addr) : It :=
  ⟨fun i H => ∃ (xs : List V) (x : V), SqT K H a xs ∧ xs[i]? = some x, fun i H v H' => ∃ T x, v = .ref T ∧ H T = none ∧ H' = upd H T (.tup [.int (i : Nat), x]) ∧ ∀ xs, SqT K H a xs → xs[i]? = some x, fun i H => ∃ xs : List V, SqT K H a xs ∧ xs.length ≤ i⟩
theorem turn_enumT {P : Program} {w : World} {K : PySem.W.Frag} {elts : List Expr} {kk : Nat} {tpos : Pos} (a e it : Addr) :
    Turn P w K (.Tuple elts kk tpos) (IteT K a) [e, it] e (fun i h => (∃ old, IsEnum h e it ((i : Nat) : Int) old) ∧ h.IsTupleIter it a i ∧ e ≠ it ∧ a ≠ e ∧ a ≠ it) where
  mem := by simp
  obj := fun i h st b hb => by
    obtain ⟨⟨old, he⟩, ⟨o, ho, hc, hd⟩, _⟩ := st
    have e' : b = e ∨ b = it := by simpa using hb
    rcases e' with z | z
    · rw [z]; exact ⟨_, he, fun v q => nomatch q⟩
    · rw [z]; exact ⟨o, ho, fun v q => by rw [hd] at q; cases q⟩
  keep := fun i h h' st k => let ⟨⟨old, he⟩, hi, hne⟩ := st; ⟨⟨old, k e (by simp) _ he⟩, hi.at fun o q => k it (by simp) o q, hne⟩
  item := by
    intro X hP hw hK hc i pins s σ H E I hf st hg
    subst hP hw hK
    obtain ⟨⟨old, he⟩, hit, hne, hae, hai⟩ := st
    obtain ⟨xs, x, hq, hx⟩ := hg
    obtain ⟨its, rv, p, hz⟩ := I.tuple hq
    obtain ⟨u, hu, ru⟩ := rv.get hx
    have hel : e < s.heap.objs.size := Heap.lt_size he
    have hil : it < s.heap.objs.size := by obtain ⟨_, q, _⟩ := hit; exact Heap.lt_size q
    have pt : s.heap.IsTuple a its.toArray := p
    have hh : X.A.in1.handled = none := by
      have := I.ok.hd hc
      simpa using this
    have hin : i < its.toArray.size := by
      have := (List.getElem?_eq_some_iff.mp hu).1
      simpa using this
    refine wpAny_pyNext_enum_itemD (fp := [it, a]) (n := its.toArray.size) (Draws.tuple hh it a hai its.toArray) he ⟨hit, pt⟩ hin hne (by simp [hne, hae.symm]) fun y h' tk hy ho hst hT hsz hk => ?_
    have hyu : y = u := by
      have : its.toArray[i]? = some u := by simpa using hu
      rw [this] at hy
      cases hy
      rfl
    subst hyu
    refine ⟨_, rfl, wpAny_letOwnedTupleGo_enum (s := { s with heap := h', toks := tk + 1 }) ho fun h'' he' sb => ?_⟩
    have hT2 : h''.get? s.heap.objs.size = some { cls := .type "tuple", data := .seq #[.int i tk, y] } := (sb.2 _ (Nat.ne_of_gt hel)).trans hT
    have new : ObjOk X.prog X.w (upd H s.heap.objs.size (.tup [.int (i : Nat), x])) h'' s.heap.objs.size (.tup [.int (i : Nat), x]) :=
      ⟨by show 2 ≤ sizeLine; decide, [.int i tk, y], .cons ⟨_, rfl⟩ (.cons ru .nil), ⟨_, hT2, rfl, _, rfl⟩⟩
    have I1 : Inv X pins σ (upd H s.heap.objs.size (.tup [.int (i : Nat), x])) { s with heap := h'', toks := tk + 1 } :=
      I.turnedNew (ch := [e, it]) (fun b ob hb q => (sb.2 b (fun z => hb (by simp [z]))).trans (hk b ob (fun z => hb (by simp [z])) (fun z => hb (by simp [z])) q)) hf (Nat.le_refl _) new
    refine ⟨.ref s.heap.objs.size, _, I1, rfl, ⟨_, x, rfl, I.hok.fresh (Nat.le_refl _), rfl, fun ys hy => by rw [I.tuple_inj hy hq]; exact hx⟩, ⟨⟨y, ?_⟩, hst.1.at fun o q => (sb.2 it (Ne.symm hne)).trans q, hne, hae, hai⟩, fun b hb => ?_⟩
    · have e1 : ((i + 1 : Nat) : Int) = (i : Int) + 1 := by omega
      rw [e1]; exact he'
    · have hb' : b < s.heap.objs.size := by
        have e' : b = e ∨ b = it := by simpa using hb
        rcases e' with z | z
        · rw [z]; exact hel
        · rw [z]; exact hil
      rw [upd_ne (Nat.ne_of_lt hb')]
      exact (hf b hb).1
  done := by
    intro X hP hw hK hc i pins s σ H E I hf st hg
    subst hP hw hK
    obtain ⟨⟨old, he⟩, hit, hne, hae, hai⟩ := st
    obtain ⟨xs, hq, hx⟩ := hg
    obtain ⟨its, rv, p, hz⟩ := I.tuple hq
    obtain ⟨f0, f1, f2, f3, f4, f5⟩ := hf it (by simp)
    have hl := rv.length
    have pt : s.heap.IsTuple a its.toArray := p
    have hh : X.A.in1.handled = none := by
      have := I.ok.hd hc
      simpa using this
    exact wpAny_pyNext_enum_endT hh he hit pt (by simp; omega) fun h' eb => ⟨rfl, I.turned (t' := s.toks) (fun b o hb q => eb b o hb q) f0 f1 f3 f4 f5⟩
  self := fun A i s Q E st h => let ⟨⟨_, he⟩, _⟩ := st; wpAny_pyIter_enum he h

def iEnumA (K : PySem.W.Frag) (ta : TE) : TI := fun σ H R => ta σ H fun v H1 => ∃ a xs, [v] = [V.ref a] ∧ ((SqL K H1 a xs ∧ R (Ite K a) H1) ∨ (SqT K H1 a xs ∧ R (IteT K a) H1))
theorem pi_enumA {X : Cx} {e : Expr} {ta : TE} {p pos tpos : Pos} {elts : List Expr} {kk : Nat} (hg : Gl X "enumerate") (hm : X.mg "enumerate" = none) (ha : PE X e ta) (hs : starEach [e] X.env = (false, eval e X.env) :: starEach [] X.env) :
    PI X (.Tuple elts kk tpos) (.Call (.Name "enumerate" p) [e] [] pos) (iEnumA X.K ta) := by
  refine ⟨fun pins s σ H R I h => ?_⟩
  refine Call_ (ld_blt I hg hm boot_enumerate (PyProof.Rows.callWith_type1 (thn ((pa_cons ha pa_nil hs).run pos pins s σ H (fun vs H1 => ∃ a xs, vs = [V.ref a] ∧ ((SqL X.K H1 a xs ∧ R (Ite X.K a) H1) ∨ (SqT X.K H1 a xs ∧ R (IteT X.K a) H1))) I h) fun us s1 ⟨vs, H1, I1, r1, q1⟩ => ?_) hs rfl))
  obtain ⟨a, xs, ex, q⟩ := q1
  cases r1 with
  | nil => cases ex
  | cons r rr =>
  cases rr with
  | cons _ _ => cases ex
  | nil =>
  cases ex
  cases r
  rcases q with ⟨hq, q⟩ | ⟨hq, q⟩
  · obtain ⟨its, rv, p', hz⟩ := I1.list hq
    refine call_enumerate_list p'.isList fun h' he hit hsz hk => wpAny_pyIter_enum he ?_
    have I2 : Inv X pins σ H1 { s1 with heap := h' } := I1.kept (t' := s1.toks) hk
    refine ⟨s1.heap.objs.size + 1, [s1.heap.objs.size + 1, s1.heap.objs.size], _, _, H1, rfl, I2, turn_enum a (s1.heap.objs.size + 1) s1.heap.objs.size, ⟨⟨.none, he⟩, hit, Nat.succ_ne_self _⟩, fun b hb => ?_, q⟩
    have e' : b = s1.heap.objs.size + 1 ∨ b = s1.heap.objs.size := by simpa using hb
    have hle : s1.heap.objs.size ≤ b := by
      rcases e' with z | z
      · rw [z]; exact Nat.le_add_right _ _
      · rw [z]; exact Nat.le_refl _
    exact I1.fpOk hle (I1.hok.fresh hle)
  · obtain ⟨its, rv, p', hz⟩ := I1.tuple hq
    have pt : s1.heap.IsTuple a its.toArray := p'
    have hal : a < s1.heap.objs.size := by obtain ⟨_, q, _⟩ := pt; exact Heap.lt_size q
    refine call_enumerate_tuple pt fun h' he hit hsz hk => wpAny_pyIter_enum he ?_
    have I2 : Inv X pins σ H1 { s1 with heap := h' } := I1.kept (t' := s1.toks) hk
    refine ⟨s1.heap.objs.size + 1, [s1.heap.objs.size + 1, s1.heap.objs.size], _, _, H1, rfl, I2, turn_enumT a (s1.heap.objs.size + 1) s1.heap.objs.size, ⟨⟨.none, he⟩, hit, Nat.succ_ne_self _, Nat.ne_of_lt (Nat.lt_succ_of_lt hal), Nat.ne_of_lt hal⟩, fun b hb => ?_, q⟩
    have e' : b = s1.heap.objs.size + 1 ∨ b = s1.heap.objs.size := by simpa using hb
    have hle : s1.heap.objs.size ≤ b := by
      rcases e' with z | z
      · rw [z]; exact Nat.le_add_right _ _
      · rw [z]; exact Nat.le_refl _
    exact I1.fpOk hle (I1.hok.fresh hle)
theorem walk_enumT {K : PySem.W.Frag} {a : Addr} {xs : List V} : Walk (IteT K a) xs.length (fun H => SqT K H a xs) (YPair (fun i => some (.int (i : Nat))) (fun i => xs[i]?)) := by
  refine ⟨fun i _ hi q => ⟨xs, xs[i], q, by simp [hi]⟩, fun _ q => ⟨xs, q, Nat.le_refl _⟩, fun i H v H' _ q y => ?_⟩
  obtain ⟨T, x, h1, h2, h3, h4⟩ := y
  exact ⟨T, .int (i : Nat), x, h1, h2, h3, rfl, h4 xs q⟩
theorem enumI_get : ∀ {xs : List PV} {n i : Nat} {p : PV}, xs[i]? = some p → (enumI n xs)[i]? = some (.tup [.int ((n + i : Nat) : Int), p])
  | [], _, _, _, h => by simp at h
  | x :: r, n, 0, p, h => by simp at h; subst h; simp [enumI]
  | x :: r, n, i + 1, p, h => by
    simp only [List.getElem?_cons_succ] at h
    simp only [enumI, List.getElem?_cons_succ]
    rw [enumI_get h]
    congr 4
    omega
theorem enumI_len : ∀ (xs : List PV) (n : Nat), (enumI n xs).length = xs.length
  | [], _ => rfl
  | x :: r, n => by simp [enumI, enumI_len r]
end Mn
end

section
set_option Elab.async false
set_option linter.all false
set_option autoImplicit false
set_option maxHeartbeats 4000000
/-! MnExpN: forms of expressions, each by its parts. -/
namespace Mn
open PySem PySem.Spec PyProof.Rows L2
theorem newL {K : Frag} {g g1 : Gh} {H H1 : Hp} {σ : L2.St} {ρ : Env} {S S1 : Sto} {H0 : Hp} {xs : List PV} {vs : List V} {p : Addr} {Q : VK} (k : ∀ g' p vs H', Stp g H g' H' → StR K g' H' S1 → H' p = some (.lst vs) → Rps K g' vs xs → g'.G p = none → p ∉ g'.B → H p = none → Q (.ref p) H')
    (a : At K H σ g ρ S H0) (t : Stp g H g1 H1) (st : StR K g1 H1 S1) (r : Rps K g1 vs xs) (hp : H1 p = none) : Q (.ref p) (upd H1 p (.lst vs)) := by
  obtain ⟨t2, st2⟩ := st.junk hp (.lst vs)
  refine k g1 p vs _ (t.tr t2 a.st st) st2 upd_same r ?_ (fun z => st.ok p z hp) ?_
  · cases q : g1.G p with
    | none => rfl
    | some o => rw [st.sub p o q] at hp; cases hp
  · cases q : H p with
    | none => rfl
    | some o =>
      by_cases m : p ∈ g.B
      · exact absurd hp (st.ok p (t.bsub m))
      · rw [t.f p o q m] at hp; cases hp
theorem base_no0 {e : Expr} {m : Str} {env : PySem.Env} (h : noCall0 e = true) : attributeBase e m env (eval e env) = eval e env := by
  cases e <;> first | rfl | skip
  rename_i f xs kws pos
  cases xs with
  | nil => cases h
  | cons y ys => cases f <;> rfl
theorem rps_rgV {K : Frag} {g : Gh} (i j : Int) : Rps K g (rgV i j) (rngI i (j - i).toNat) := by
  unfold rgV
  generalize (j - i).toNat = n
  induction n generalizing i with
  | zero => exact .nil
  | succ n ih =>
    rw [List.range_succ_eq_map, List.map_cons, List.map_map]
    have h0 : (V.int (i + ((0 : Nat) : Int))) = V.int i := by simp
    rw [h0]
    refine .cons (.int i) ?_
    have := ih (i + 1)
    have e : (fun k : Nat => V.int (i + 1 + (k : Int))) = (fun k : Nat => V.int (i + (k : Int))) ∘ Nat.succ := by
      funext k
      simp only [Function.comp, Nat.succ_eq_add_one]
      congr 1
      omega
    rw [e] at this
    exact this
theorem strs_rps {K : Frag} {g : Gh} : ∀ {xs : List PV} {ys : List Sg} {vs : List V}, strsOf xs = some ys → Rps K g vs xs → vs = (ys.map toS).map V.str
  | [], ys, vs, h, r => by
    cases r
    cases h
    rfl
  | x :: xs, ys, vs, h, r => by
    cases r with
    | cons a b =>
      cases x <;> simp only [strsOf, reduceCtorEq] at h
      simp only [Option.map_eq_some_iff] at h
      obtain ⟨zs, h1, rfl⟩ := h
      cases a
      rw [strs_rps h1 b]
      rfl
theorem join_toS (s : Sg) (ys : List Sg) : PySem.Txt.join (toS s) (ys.map toS) = toS (joinS s ys) := by
  have h : ∀ ys : List Sg, PySem.Str.join (toS s) (ys.map toS) = toS (joinS s ys) := by
    intro ys
    induction ys with
    | nil => rfl
    | cons x r ih =>
      cases r with
      | nil => rfl
      | cons y r =>
        show toS x ++ toS s ++ PySem.Str.join (toS s) ((y :: r).map toS) = _
        rw [ih, app_toS, app_toS]
        rfl
  rw [show PySem.Txt.join (toS s) (ys.map toS) = PySem.Str.join (toS s) (ys.map toS) from TL.join_eq _ _]
  exact h ys
section
variable {D : Dat} {c : Ct} {n : Nat} {X : Cx}
theorem s_slr (o : OkX D c n X) {m : O} {x : Expr} {kk : Nat} {pc pu ps pos : Pos} (hx : PE X x (tO X.K c m)) : PE X (.Subscript x (.Slice none none (some (.UnaryOp .USub (.Constant (.int 1) kk pc) pu)) ps) pos) (tF X.K c (.slr m)) := by
  refine PE.weak (pe_revL hx) fun σ H Q q => ?_
  obtain ⟨g, ρ, S, H0, p, S', a, e, k⟩ := q
  simp only [evF] at e
  obtain ⟨p1, S1, e1, e⟩ := ofBind e
  refine ⟨g, ρ, S, H0, p1, S1, a, e1, fun g1 v1 H1 t1 st1 r1 => ?_⟩
  have lk := r1.lk st1
  split at e
  case h_1 xs hx =>
    cases e
    rw [hx] at lk
    cases lk with
    | lst s r => exact ⟨_, _, rfl, s.l, fun p hp => newL k a t1 st1 r.reverse hp⟩
  case h_2 => cases e
theorem s_srt (o : OkX D c n X) {m : O} {y : Expr} {p pos : Pos} (k1 : Gl X "sorted") (k2 : X.mg "sorted" = none) (h3 : noStar y = true) (hy : PE X y (tO X.K c m)) : PE X (.Call (.Name "sorted" p) [y] [] pos) (tF X.K c (.srt m)) := by
  refine PE.weak (pe_callB (call_srt o.calm) k1 k2 (show bootBuiltins "sorted" = some (.builtin "sorted") by decide +kernel) (pa_cons hy pa_nil (star_cons h3)) (by decide) (by decide) (star_cons h3) rfl) fun σ H Q q => ?_
  obtain ⟨g, ρ, S, H0, p, S', a, e, k⟩ := q
  simp only [evF] at e
  obtain ⟨p1, S1, e1, e⟩ := ofBind e
  obtain ⟨e3, e4⟩ := ofOpt e
  subst e4
  exact ⟨g, ρ, S, H0, p1, _, a, e1, fun g1 v H1 t1 st1 r1 => ⟨g1, _, v, _, _, rfl, st1, r1.lk st1, e3, fun l ws hl r => newL k a t1 st1 r hl⟩⟩
theorem s_enum (o : OkX D c n X) {m : O} {y : Expr} {p pos tpos : Pos} {elts : List Expr} {kk : Nat} (k1 : Gl X "enumerate") (k2 : X.mg "enumerate" = none) (h3 : noStar y = true) (hy : PE X y (tO X.K c m)) : PI X (.Tuple elts kk tpos) (.Call (.Name "enumerate" p) [y] [] pos) (tI X.K c (.enum m)) := by
  refine PI.weak (pi_enumA k1 k2 hy (star_cons h3)) fun σ H R q => ?_
  obtain ⟨g, ρ, S, H0, xs, S', a, e, k⟩ := q
  simp only [evI] at e
  obtain ⟨p1, S1, e1, e⟩ := ofBind e
  refine ⟨g, ρ, S, H0, p1, _, a, e1, fun g1 v H1 t1 st1 r1 => ?_⟩
  have pairs : ∀ {ys : List PV} {vs : List V} {g' : Gh} {H' : Hp} {S' : Sto} {i : Nat} {x : V} {H2 : Hp}, Rps X.K g' vs ys → StR X.K g' H' S' → i < ys.length → YPair (fun i => some (.int (i : Nat))) (fun i => vs[i]?) i H' x H2 →
      ∃ g2 p, (enumI 0 ys)[i]? = some p ∧ Stp g' H' g2 H2 ∧ StR X.K g2 H2 S' ∧ Rp X.K g2 x p := by
    intro ys vs g' H' S' i x H2 r st hi y
    obtain ⟨T, u, w, z1, z2, z3, z4, z5⟩ := y
    cases z4
    subst z1 z3
    obtain ⟨p, h1, h2⟩ := r.getV z5
    obtain ⟨t2, st2⟩ := st.put z2 (.tup [.int (i : Nat), w])
    refine ⟨_, .tup [.int (i : Nat), p], ?_, t2, st2, .tup (.inl (.inl upd_same)) (.cons (.int _) (.cons (h2.stp t2) .nil))⟩
    rw [enumI_get h1]
    simp
  cases p1 <;> simp only [reduceCtorEq] at e
  case lst ys =>
    cases e
    obtain ⟨ad, vs, rfl, r, l⟩ := later_lst r1 st1
    refine ⟨ad, vs, rfl, .inl ⟨(l g1 H1 _ (.refl _ _) st1).l, k g1 _ H1 t1 st1 ⟨fun H => SqL X.K H ad vs, _, by rw [enumI_len, ← r.length]; exact walk_enum, fun g' H' S' t st => (l g' H' S' t st).l, fun i g' H' S' x H2 hi t st y => ?_⟩⟩⟩
    rw [enumI_len] at hi
    exact pairs (r.stp t) st hi y
  case tup ys =>
    cases e
    obtain ⟨ad, vs, rfl, r, l⟩ := later_tup r1 st1
    refine ⟨ad, vs, rfl, .inr ⟨l g1 H1 _ (.refl _ _) st1, k g1 _ H1 t1 st1 ⟨fun H => SqT X.K H ad vs, _, by rw [enumI_len, ← r.length]; exact walk_enumT, fun g' H' S' t st => l g' H' S' t st, fun i g' H' S' x H2 hi t st y => ?_⟩⟩⟩
    rw [enumI_len] at hi
    exact pairs (r.stp t) st hi y
theorem s_join (o : OkX D c n X) {r a : O} {oe x : Expr} {apos cpos : Pos} (h2 : (apos.endLine == cpos.line) = true) (h3 : noCall0 oe = true) (h4 : noStar x = true) (hr : PE X oe (tO X.K c r)) (hx : PE X x (tO X.K c a)) : PE X (.Call (.Attribute oe "join" apos) [x] [] cpos) (tE X.K c (.met .join r [a])) := by
  refine PE.weak (pe_join hr hx (star_cons h4) (base_no0 h3) h2) fun σ H Q q => ?_
  obtain ⟨g, ρ, S, H0, p, S', at_, ev, k⟩ := q
  simp only [evE, evOs] at ev
  obtain ⟨p1, S1, e1, ev⟩ := ofBind ev
  obtain ⟨ps, S2, e2, ev⟩ := ofBind ev
  obtain ⟨p2, S3, e2, ev2⟩ := ofBind e2
  cases ev2
  obtain ⟨e3, e4⟩ := ofOpt ev
  subst e4
  simp only [List.map_cons, List.map_nil] at e3
  refine ⟨g, ρ, S, H0, p1, S1, at_, e1, fun g1 v1 H1 t1 st1 r1 => ?_⟩
  have e3' := e3
  unfold metPV at e3
  split at e3 <;> first | (cases e3; done) | skip
  case h_1 =>
    rename_i sg xs _ hd1 hd2
    have lk1' : Lk X.K g1 H1 v1 (.str sg) := r1.lk0 st1
    cases lk1'
    refine ⟨⟨_, rfl⟩, g1, ρ, S1, H0, p2, _, at_.after t1 st1, e2, fun g2 v2 H2 t2 st2 r2 => ?_⟩
    have hd2' : dr S' p2 = .lst xs := by
      injection hd1
    have lk2 := r2.lk st2
    rw [hd2'] at lk2
    simp only [Option.bind_eq_some_iff] at e3
    obtain ⟨ys, hy, e3⟩ := e3
    split at e3
    case isFalse => cases e3
    case isTrue hz =>
      injection e3 with e3
      subst e3
      cases lk2 with
      | lst s2 q2 =>
        obtain rfl := strs_rps hy q2
        refine ⟨_, _, ys.map toS, rfl, rfl, .inl s2.l, ?_, ?_⟩
        · rw [List.length_map, List.map_map]
          have e5 : (fun x : PySem.Str => x.length) ∘ toS = List.length := by
            funext z
            exact len_toS z
          rw [show ((fun x : PySem.Str => x.length) ∘ toS) = List.length from e5, len_toS]
          exact hz
        · rw [join_toS]
          exact k g2 _ H2 (t1.tr t2 at_.st st1) st2 (.str _)
  all_goals contradiction
theorem s_count (o : OkX D c n X) {r a : O} {oe x : Expr} {apos cpos : Pos} (h2 : (apos.endLine == cpos.line) = true) (h3 : noCall0 oe = true) (h4 : noStar x = true) (hr : PE X oe (tO X.K c r)) (hx : PE X x (tO X.K c a)) : PE X (.Call (.Attribute oe "count" apos) [x] [] cpos) (tE X.K c (.met .count r [a])) := by
  refine PE.weak (pe_bm PySem.F.plainAttrs_list PySem.F.slot_list_count PySem.F.type_list_count (mt_countD o.hu) hr (pa_cons hx pa_nil (star_cons h4)) (base_no0 h3) (by rw [star_cons h4]; rfl) h2 (star_cons h4) rfl) fun σ H Q q => ?_
  obtain ⟨g, ρ, S, H0, p, Sz, at_, ev, k⟩ := q
  simp only [evE, evOs] at ev
  obtain ⟨p1, S1, e1, ev⟩ := ofBind ev
  obtain ⟨ps, S2, e2, ev⟩ := ofBind ev
  obtain ⟨p2, S3, e2, ev2⟩ := ofBind e2
  cases ev2
  obtain ⟨e3, e4⟩ := ofOpt ev
  subst e4
  simp only [List.map_cons, List.map_nil] at e3
  refine ⟨g, ρ, S, H0, p1, S1, at_, e1, fun g1 v1 H1 t1 st1 r1 => ?_⟩
  cases p1 <;> simp only [metPV, reduceCtorEq] at e3
  case lst =>
    rename_i xs _
    split at e3
    case isFalse => cases e3
    case isTrue hf =>
      rw [Bool.and_eq_true] at hf
      obtain ⟨ad, vs, rfl, rr, l⟩ := later_lst r1 st1
      have s1 := (l g1 H1 _ (.refl _ _) st1).l
      refine ⟨.inl ⟨rfl, _, s1⟩, g1, ρ, S1, H0, p2, _, at_.after t1 st1, e2, fun g2 v2 H2 t2 st2 r2 => ?_⟩
      have s2 := (l g2 H2 _ t2 st2).l
      have lk2 := r2.lk st2
      have dl : Dp X.K H2 (.ref ad) (.list (toDs xs)) := .lst s2 (Rps.dps st2.sub hf.2 (rr.stp t2))
      injection e3 with e3
      subst e3
      refine ⟨ad, v2, _, _, rfl, rfl, dl, lk2.dp st2.sub hf.1, shaped_ofs hf.2, shaped_of hf.1, ?_⟩
      rw [count_toD hf.1 hf.2]
      exact k g2 _ H2 (t1.tr t2 at_.st st1) st2 (.int _)
theorem s_index (o : OkX D c n X) {r a : O} {oe x : Expr} {apos cpos : Pos} (h2 : (apos.endLine == cpos.line) = true) (h3 : noCall0 oe = true) (h4 : noStar x = true) (hr : PE X oe (tO X.K c r)) (hx : PE X x (tO X.K c a)) : PE X (.Call (.Attribute oe "index" apos) [x] [] cpos) (tE X.K c (.met .index r [a])) := by
  refine PE.weak (pe_bm PySem.F.plainAttrs_list PySem.F.slot_list_index PySem.F.type_list_index (mt_indexD o.hu) hr (pa_cons hx pa_nil (star_cons h4)) (base_no0 h3) (by rw [star_cons h4]; rfl) h2 (star_cons h4) rfl) fun σ H Q q => ?_
  obtain ⟨g, ρ, S, H0, p, Sz, at_, ev, k⟩ := q
  simp only [evE, evOs] at ev
  obtain ⟨p1, S1, e1, ev⟩ := ofBind ev
  obtain ⟨ps, S2, e2, ev⟩ := ofBind ev
  obtain ⟨p2, S3, e2, ev2⟩ := ofBind e2
  cases ev2
  obtain ⟨e3, e4⟩ := ofOpt ev
  subst e4
  simp only [List.map_cons, List.map_nil] at e3
  refine ⟨g, ρ, S, H0, p1, S1, at_, e1, fun g1 v1 H1 t1 st1 r1 => ?_⟩
  cases p1 <;> simp only [metPV, reduceCtorEq] at e3
  case lst =>
    rename_i xs _
    split at e3
    case isFalse => cases e3
    case isTrue hf =>
      rw [Bool.and_eq_true] at hf
      obtain ⟨ad, vs, rfl, rr, l⟩ := later_lst r1 st1
      have s1 := (l g1 H1 _ (.refl _ _) st1).l
      refine ⟨.inl ⟨rfl, _, s1⟩, g1, ρ, S1, H0, p2, _, at_.after t1 st1, e2, fun g2 v2 H2 t2 st2 r2 => ?_⟩
      have s2 := (l g2 H2 _ t2 st2).l
      have lk2 := r2.lk st2
      have dl : Dp X.K H2 (.ref ad) (.list (toDs xs)) := .lst s2 (Rps.dps st2.sub hf.2 (rr.stp t2))
      simp only [Option.map_eq_some_iff] at e3
      obtain ⟨j, hj, e3⟩ := e3
      subst e3
      obtain ⟨_, z, z1, z2, z3⟩ := find_toD hf.1 hf.2 hj
      exact ⟨ad, v2, _, _, j, z, rfl, rfl, dl, lk2.dp st2.sub hf.1, shaped_ofs hf.2, shaped_of hf.1, z1, z2, z3, k g2 _ H2 (t1.tr t2 at_.st st1) st2 (.int _)⟩
theorem s_get2 (o : OkX D c n X) {r : O} {kk dd : E} {oe x y : Expr} {apos cpos : Pos} (h2 : (apos.endLine == cpos.line) = true) (h3 : noCall0 oe = true) (h4 : noStar x = true) (h4' : noStar y = true) (hr : PE X oe (tO X.K c r)) (hx : PE X x (tE X.K c kk)) (hy : PE X y (tE X.K c dd)) : PE X (.Call (.Attribute oe "get" apos) [x, y] [] cpos) (tE X.K c (.get2 r kk dd)) := by
  have hu := o.hu
  refine PE.weak (pe_dget2 (by omega) hr hx hy ⟨base_no0 h3, by rw [star_cons h4, star_cons h4']; rfl, h2, by rw [star_cons h4, star_cons h4']; rfl⟩) fun σ H Q q => ?_
  obtain ⟨g, ρ, S, H0, p, S', at_, ev, k⟩ := q
  simp only [evE] at ev
  obtain ⟨p1, S1, e1, ev⟩ := ofBind ev
  obtain ⟨p2, S2, e2, ev⟩ := ofBind ev
  obtain ⟨p3, S3, e3, ev⟩ := ofBind ev
  obtain ⟨e4, e5⟩ := ofOpt ev
  subst e5
  refine ⟨g, ρ, S, H0, p1, S1, at_, e1, fun g1 v1 H1 t1 st1 r1 => ?_⟩
  cases p1 <;> simp only [getPV, reduceCtorEq] at e4
  case dct =>
    rename_i ks xs _ _
    simp only [Option.map_eq_some_iff] at e4
    obtain ⟨ky, hk, e4⟩ := e4
    have lk1 := r1.lk0 st1
    cases lk1 with
    | @dct ad kvs _ _ z1 z2 z3 =>
      refine ⟨ad, rfl, .inl ⟨_, z1⟩, g1, ρ, S1, H0, p2, _, at_.after t1 st1, e2, fun g2 v2 H2 t2 st2 r2 => ⟨g2, ρ, S2, H0, p3, _, (at_.after t1 st1).after t2 st2, e3, fun g3 v3 H3 t3 st3 r3 => ?_⟩⟩
      have hv : v2 = kV (kyK ky) := by
        cases p2 <;> simp only [kyOf, Option.some.injEq, reduceCtorEq] at hk <;> subst hk <;> cases r2 <;> rfl
      have r1' := (r1.stp t2).stp t3
      have lk3 := r1'.lk0 st3
      cases lk3 with
      | dct w1 w2 w3 =>
        refine ⟨_, by rw [hv]; exact dget_rd w1, ?_⟩
        refine k g3 _ H3 ((t1.tr t2 at_.st st1).tr t3 at_.st st2) st3 ?_
        subst e4
        obtain ⟨f1, f2⟩ := findD_val ky w2 w3
        cases fd : findD ky ks xs with
        | none => rw [f2 fd]; exact r3
        | some pp =>
          obtain ⟨vv, f3, f4⟩ := f1 _ fd
          rw [f3]; exact f4
theorem s_lens (o : OkX D c n X) {m : O} {y : Expr} {p py pos pos2 : Pos} (k1 : Gl X "len") (k2 : X.mg "len" = none) (k3 : Gl X "set") (k4 : X.mg "set" = none) (h5 : noStar y = true) (hy : PE X y (tO X.K c m)) : PE X (.Call (.Name "len" p) [.Call (.Name "set" py) [y] [] pos2] [] pos) (tE X.K c (.lens m)) := by
  refine PE.weak (RZ.pe_lenSetI k1 k2 k3 k4 hy o.calm (star_cons h5)) fun σ H Q q => ?_
  obtain ⟨g, ρ, S, H0, p, S', at_, ev, k⟩ := q
  simp only [evE] at ev
  obtain ⟨p1, S1, e1, ev⟩ := ofBind ev
  obtain ⟨e4, e5⟩ := ofOpt ev
  subst e5
  refine ⟨g, ρ, S, H0, p1, _, at_, e1, fun g1 v1 H1 t1 st1 r1 => ?_⟩
  have lk := r1.lk st1
  generalize dr _ p1 = d at e4 lk
  cases lk <;> simp only [lensPV, reduceCtorEq] at e4
  case lst s r =>
    simp only [Option.bind_eq_some_iff] at e4
    obtain ⟨ns, hn, e4⟩ := e4
    split at e4
    case isFalse => cases e4
    case isTrue hh =>
      injection e4 with e4
      subst e4
      have := r.toI hn
      subst this
      exact ⟨_, ns, rfl, s.l, hh.1, by omega, k g1 _ H1 t1 st1 (.int _)⟩
theorem s_tupr (o : OkX D c n X) {a : E} {y : Expr} {p py pos pos2 : Pos} (k1 : Gl X "tuple") (k2 : X.mg "tuple" = none) (k3 : Gl X "range") (k4 : X.mg "range" = none) (h5 : noStar y = true) (hy : PE X y (tE X.K c a)) : PE X (.Call (.Name "tuple" p) [.Call (.Name "range" py) [y] [] pos2] [] pos) (tE X.K c (.tupr a)) := by
  refine PE.weak (pe_tupRg o.calm k1 k2 (prg_1 k3 k4 hy (star_cons h5))) fun σ H Q q => ?_
  obtain ⟨g, ρ, S, H0, p, S', at_, ev, k⟩ := q
  simp only [evE] at ev
  obtain ⟨p1, S1, e1, ev⟩ := ofBind ev
  refine ⟨g, ρ, S, H0, p1, S1, at_, e1, fun g1 v1 H1 t1 st1 r1 => ?_⟩
  cases p1 <;> first | (simp at ev; done) | skip
  rename_i j
  simp only at ev
  obtain ⟨hz, ev⟩ := ofChk ev
  cases ev
  simp only [Bool.and_eq_true] at hz
  obtain ⟨z1, z3⟩ := hz
  have z1 := Nat.le_of_ble_eq_true z1
  have z3 := Nat.le_of_ble_eq_true z3
  cases r1
  refine ⟨_, rfl, ⟨by omega, by omega, by omega, by omega, by unfold L at z3; omega⟩, fun l hl => ?_⟩
  have ap : Aft X.K g1 H1 _ (.tup (rngI 0 j.toNat)) Q := fun g' v H' t st r => k g' v H' (t1.tr t at_.st st1) st r
  have e0 : j.toNat = (j - 0).toNat := by omega
  rw [e0] at ap
  exact ap.tup st1 (rps_rgV _ _) hl
theorem s_dictp (o : OkX D c n X) {m : O} {y : Expr} {p pos : Pos} (k1 : Gl X "dict") (k2 : X.mg "dict" = none) (h3 : noStar y = true) (hy : PE X y (tO X.K c m)) : PE X (.Call (.Name "dict" p) [y] [] pos) (tE X.K c (.dictp m)) := by
  refine PE.weak (pe_lk (pe_callTy (call_dictP o.calm) k1 k2 (show bootBuiltins "dict" = some (.type "dict") by decide +kernel) (pa_cons hy pa_nil (star_cons h3)) (by decide) (by decide) (star_cons h3) rfl)) fun σ H Q q => ?_
  obtain ⟨g, ρ, S, H0, p, S', a, e, k⟩ := q
  simp only [evE] at e
  obtain ⟨p1, S1, e1, e⟩ := ofBind e
  obtain ⟨e3, e4⟩ := ofOpt e
  subst e4
  refine ⟨g, ρ, S, H0, p1, _, a, e1, fun g1 v H1 t1 st1 r1 => ?_⟩
  have lk := r1.lk st1
  generalize dr _ p1 = d at e3 lk
  cases lk <;> simp only [dctPV, reduceCtorEq] at e3
  case lst s r =>
    simp only [Option.map_eq_some_iff] at e3
    obtain ⟨ps, hp, e3⟩ := e3
    obtain ⟨as, kvs, z1, z2, z3, z4⟩ := pairs_rel st1.sub hp r
    subst z1
    refine ⟨_, as, kvs, rfl, s.l, z2, fun l hl => ?_⟩
    obtain ⟨w1, w2⟩ := merge_rel (kvs := []) (d := ([], [])) z3 z4 rfl .nil
    refine ⟨l, _, rfl, upd_same, fun od => ?_⟩
    rw [upd_upd]
    have ⟨t2, st2⟩ := st1.put hl (.frz od (.dK (mergeK [] kvs)))
    refine k _ _ _ (t1.tr t2 a.st st1) st2 ?_
    rw [← e3]
    exact .dct upd_same w1 (w2.stp t2)
end
end Mn
end

section
set_option Elab.async false
set_option linter.all false
set_option autoImplicit false
set_option maxHeartbeats 8000000
/-! MnExp2: the expressions, by one induction. -/
namespace Mn
open PySem PySem.Spec PyProof.Rows L2

theorem spC_len {K : Frag} {c : Ct} {f np : Nat} : ∀ vs H Q E, spC K c f np vs H Q E → vs.length = np := fun _ _ _ _ h => h.1
section
variable {D : Dat} {c : Ct} {n : Nat}
/-- the call of a def -/
theorem pe_def {X : Cx} (o : OkX D c n X) {f : Nat} {es : List E} {x : Str} {xs : List Expr} {p pos : Pos} (h1 : atN D.fnn f x = true) (h2 : gloC X.env.scope.names x = true) (h3 : okN x = true)
    (h4 : ∀ e ∈ xs, noStar e = true) (hl : es.length = xs.length) (ha : PA X xs (tEs X.K c es)) : PE X (.Call (.Name x p) xs [] pos) (tE X.K c (.call f es)) := by
  obtain ⟨fa, fd, ps, np, hm, hk, hb, F, _, hn, _⟩ := o.fns f x (atN_ok h1)
  have go : ∀ σ H Q, tE X.K c (.call f es) σ H Q → tEs X.K c es σ H fun vs H1 => spC X.K c f np vs H1 Q E0 := fun σ H Q q => by
    obtain ⟨g, ρ, S, H0, r, S', a, e, k⟩ := q
    simp only [evE] at e
    obtain ⟨qs, S1, e1, e2⟩ := ofBind e
    refine ⟨g, ρ, S, H0, qs, S1, a, e1, fun g1 vs H1 t1 st1 r1 => ⟨by rw [r1.length]; exact hn _ _ _ _ e2, g1, qs, S1, r, S', st1, r1, e2, fun g2 v H2 t2 st2 r2 => k g2 v H2 (t1.tr t2 a.st st1) st2 r2⟩⟩
  cases xs with
  | nil =>
    refine PE.weak (pe_callG0 F o.room o.gd (glo_of h2) hm hk hb (okN_of h3).1) fun σ H Q q => ?_
    obtain ⟨g, ρ, S, H0, qs, S1, a, e, k⟩ := go σ H Q q
    cases es with
    | nil =>
      simp only [evEs, Res.ok.injEq] at e
      obtain ⟨e1, e2⟩ := e
      subst e1 e2
      exact k g [] H (.refl _ _) a.st .nil
    | cons _ _ => simp at hl
  | cons y ys =>
    exact PE.weak (pe_callG F o.room o.gd (glo_of h2) hm hk hb ha (okN_of h3).1 (star_cons (h4 y List.mem_cons_self)) (stars_no fun e he => h4 e (List.mem_cons_of_mem _ he))) go

/-- .. whose list is the caller's alone -/
theorem pe_defO {X : Cx} (o : OkX D c n X) {f : Nat} {es : List E} {x : Str} {xs : List Expr} {p pos : Pos} (h1 : atN D.fnn f x = true) (h2 : gloC X.env.scope.names x = true) (h3 : okN x = true)
    (h4 : ∀ e ∈ xs, noStar e = true) (hl : es.length = xs.length) (ha : PA X xs (tEs X.K c es)) : PE X (.Call (.Name x p) xs [] pos) (tF X.K c (.callO f es)) := by
  obtain ⟨fa, fd, ps, np, hm, hk, hb, _, F, _, hn⟩ := o.fns f x (atN_ok h1)
  have go : ∀ σ H Q, tF X.K c (.callO f es) σ H Q → tEs X.K c es σ H fun vs H1 => spO X.K c f np vs H1 Q E0 := fun σ H Q q => by
    obtain ⟨g, ρ, S, H0, r, S', a, e, k⟩ := q
    simp only [evF] at e
    obtain ⟨qs, S1, e1, e2⟩ := ofBind e
    refine ⟨g, ρ, S, H0, qs, S1, a, e1, fun g1 vs H1 t1 st1 r1 => ⟨by rw [r1.length]; exact hn _ _ _ _ e2, g1, qs, S1, r, S', st1, r1, e2, fun g2 p2 vs2 H2 t2 st2 hp2 r2 n1 n2 n3 => k g2 p2 vs2 H2 (t1.tr t2 a.st st1) st2 hp2 r2 n1 n2 (by
      cases eq : H p2 with
      | none => rfl
      | some u =>
        by_cases m : p2 ∈ g.B
        · exact absurd (t2.bsub (t1.bsub m)) n2
        · rw [t1.f p2 u eq m] at n3; cases n3)⟩⟩
  cases xs with
  | nil =>
    refine PE.weak (pe_callG0 F o.room o.gd (glo_of h2) hm hk hb (okN_of h3).1) fun σ H Q q => ?_
    obtain ⟨g, ρ, S, H0, qs, S1, a, e, k⟩ := go σ H Q q
    cases es with
    | nil =>
      simp only [evEs, Res.ok.injEq] at e
      obtain ⟨e1, e2⟩ := e
      subst e1 e2
      exact k g [] H (.refl _ _) a.st .nil
    | cons _ _ => simp at hl
  | cons y ys =>
    exact PE.weak (pe_callG F o.room o.gd (glo_of h2) hm hk hb ha (okN_of h3).1 (star_cons (h4 y List.mem_cons_self)) (stars_no fun e he => h4 e (List.mem_cons_of_mem _ he))) go

theorem chkEs_len {D : Dat} {sc : List (Str × NameKind)} : ∀ {es : List E} {xs : List Expr}, chkEs D sc es xs = true → es.length = xs.length
  | [], [], _ => rfl
  | [], _ :: _, h => by cases h
  | _ :: _, [], h => by cases h
  | e :: es, y :: ys, h => by
    simp only [chkEs, Bool.and_eq_true] at h
    simp [chkEs_len h.2]
theorem tyS_ok (t : Ty) : bootBuiltins (tyS t) = some (.type (tyN t)) ∧ tyS t ≠ "__name__" ∧ (tyS t == ("__debug__" : Str)) = false := by cases t <;> decide +kernel
theorem boot_isi : bootBuiltins "isinstance" = some (.builtin "isinstance") := by decide +kernel
theorem boot_list' : bootBuiltins "list" = some (.type "list") := by decide +kernel

/-- the end of an operation with a bool -/
theorem tru_bl {K : Frag} {g : Gh} {H : Hp} {b : Bool} : Rp K g (.bl b) (.bl b) := .bl b

theorem pw_of {X : Cx} {e : Expr} {t : TT} (h : PT X e t) (he : ∀ w w', isTrue e X.env w = isTrue e X.env w') : PW X e t := ⟨fun w pins s σ H Q I q => by rw [he w (eval e X.env)]; exact h.run pins s σ H Q I q⟩
/-- two lists put together -/
def rCatL (K : Frag) : R2 := fun x y H Q => ∃ l b xs zs, x = .ref l ∧ y = .ref b ∧ SqX K H l xs ∧ SqX K H b zs ∧ xs.length + zs.length ≤ sizeLine ∧ ∀ p, H p = none → Q (.ref p) (upd H p (.lst (xs ++ zs)))
theorem op_catL {X : Cx} : OpR X (binaryOp .Add) (rCatL X.K) := by
  intro pins s σ H x y v u Q I rx ry h
  obtain ⟨l, b, xs, zs, rfl, rfl, h1, h2, hz, q⟩ := h
  cases rx
  cases ry
  obtain ⟨us, n, r, e, _⟩ := h1.at I
  obtain ⟨ws, n2, r2, e2, _⟩ := h2.at I
  have l1 := r.length
  have l2 := r2.length
  refine PySem.P.add_list e e2 ?_ (by rw [List.size_toArray, List.size_toArray]; omega)
  have ea : us.toArray ++ ws.toArray = (us ++ ws).toArray := by simp
  rw [ea]
  exact ⟨.ref _, _, I.lnew (t' := s.toks) (r.append r2) (by rw [List.length_append]; omega), rfl, q _ I.fresh⟩
/-- list of a list, a tuple, a text -/
def rListA (K : Frag) : List V → Hp → VK → Prop := fun xs H Q => (∃ p ys, xs = [.ref p] ∧ (SqL K H p ys ∨ SqT K H p ys) ∧ ∀ l, H l = none → Q (.ref l) (upd H l (.lst ys))) ∨
  ∃ x : Sg, xs = [.str (toS x)] ∧ x.length ≤ L ∧ ∀ l, H l = none → Q (.ref l) (upd H l (.lst (x.map fun c => .str (toS [c]))))
theorem call_listA {X : Cx} (hc : X.calm = true) : CallR X (.type "list") (rListA X.K) := by
  intro pins s σ H xs us Q I r h
  rcases h with h | ⟨x, rfl, hl, q⟩
  · exact call_list_of pins s σ H xs us Q I r h
  · obtain ⟨u, rfl, rx⟩ := vals1 r
    obtain ⟨t, rfl⟩ := rx
    have hn : (toS x).cps.size = x.length := by simp [toS]
    have hL := line_L
    refine PySem.call_list_str (I.ok.hd hc) (toS x) t (fun h' tk acc c' kp e hi => ?_) (by rw [hn, line_L]; exact hl)
    refine ⟨.ref s.heap.objs.size, _, I.laid kp (Nat.le_refl _) (show ObjOk X.prog X.w _ h' _ (.lst (x.map fun c => V.str (toS [c]))) from ⟨by rw [List.length_map, line_L]; exact hl, acc.toList, c', ?_, by simpa using e⟩), rfl, q _ (I.hok.fresh (Nat.le_refl _))⟩
    have el : acc.toList.length = x.length := by rw [Array.length_toList, hi.1, hn]
    refine vals_of_at (by rw [List.length_map, el]) fun j y w h1 h2 => ?_
    obtain ⟨c, u, h3, h4⟩ := hi.2 j w (by rw [← Array.getElem?_toList]; exact h2)
    subst h4
    have h5 : x[j]? = some c := by simpa [toS] using h3
    rw [List.getElem?_map, h5] at h1
    cases h1
    exact ⟨u, rfl⟩
theorem rps_signs {K : Frag} {g : Gh} : ∀ x : Sg, Rps K g (x.map fun c => V.str (toS [c])) (x.map fun c => .str [c])
  | [] => .nil
  | c :: r => .cons (.str [c]) (rps_signs r)
theorem rel_names {scope : Scope} {cl : List (Str × Addr)} {C : Addr} {env : PySem.Env} (hk : env.scope.kind = .function) : (compEnvC scope cl C env).scope.names = relN scope.names env.scope.names := by
  show (scope.names.map fun (n, k) => if (k == NameKind.free && env.scope.kind == ScopeKind.function && env.kindOf n == some NameKind.cell) then (n, NameKind.cell) else (n, k)) = _
  unfold relN
  rw [hk]
  apply List.map_congr_left
  intro y _
  obtain ⟨n, k⟩ := y
  show (if (k == NameKind.free && true && env.kindOf n == some NameKind.cell) = true then (n, NameKind.cell) else (n, k)) = _
  rw [Bool.and_true]
  rfl
/-- a comprehension's reading -/
theorem lc_read {K : Frag} {c : Ct} {own : List Nat} {t : Tg} {it : I} {cs : List T} {el : E} {σ : L2.St} {H : Hp} {Q : VK} (ht : ∀ j ∈ tgSlots t, j ∈ own) (q : tF K c (.lc own t it cs el) σ H Q) :
    tLc (tI K c it) (gT K t) (tTTs K c cs) (tE K c el) own σ H Q := by
  obtain ⟨g, ρ, S, H0, xs, S', a, e, k⟩ := q
  simp only [evF] at e
  obtain ⟨items, S1, e1, e⟩ := ofBind e
  refine ⟨g, ρ, S, H0, items, S1, a, e1, fun g1 J H1 t1 st1 enm D hD => ?_⟩
  obtain ⟨G, Y, w, hG, hY⟩ := enm.ex
  have gD : g1.G D = none := by
    cases z : g1.G D with
    | none => rfl
    | some o => rw [st1.sub D o z] at hD; cases hD
  have bD : D ∉ g1.B := fun z => st1.ok D z hD
  have HD : H D = none := by
    cases z : H D with
    | none => rfl
    | some o =>
      by_cases m : D ∈ g.B
      · exact absurd hD (st1.ok D (t1.bsub m))
      · rw [t1.f D o z m] at hD; cases hD
  refine lc_it w (fun i H' => ∃ g' S2 acc vs, Stp g1 H1 g' H' ∧ StR K g' H' S2 ∧ H' D = some (.lst vs) ∧ Rps K g' vs acc ∧ g'.G D = none ∧ D ∉ g'.B ∧ lcL t (fun ρ S => evTs c cs ρ S) (fun ρ S => evE c el ρ S) (wipeE ρ own) (items.drop i) acc S2 = .ok xs S')
    ?h0 (fun i H' _ ⟨g', S2, acc, vs, p1, p2, _⟩ => hG g' H' S2 p1 p2) ?hs ?hd
  case h0 =>
    obtain ⟨t2, st2⟩ := st1.junk hD (.lst [])
    exact ⟨g1, S1, [], [], t2, st2, upd_same, .nil, gD, bD, e⟩
  case hd =>
    rintro H' ⟨g', S2, acc, vs, p1, p2, p3, p4, p5, p6, p7⟩
    rw [List.drop_length] at p7
    simp only [lcL, Res.ok.injEq] at p7
    obtain ⟨rfl, rfl⟩ := p7
    exact k g' D vs H' (t1.tr p1 a.st st1) p2 p3 p4 p5 p6 HD
  case hs =>
    rintro i x H' H2 hi ⟨g', S2, acc, vs, p1, p2, p3, p4, p5, p6, p7⟩ y
    obtain ⟨g2, p, y1, y2, y3, y4⟩ := hY i g' H' S2 x H2 hi p1 p2 y
    have t2 : Stp g H g2 H2 := (t1.tr p1 a.st st1).tr y2 a.st p2
    have hdr : items.drop i = p :: items.drop (i + 1) := by
      obtain ⟨h1, h2⟩ := List.getElem?_eq_some_iff.mp y1
      rw [List.drop_eq_getElem_cons h1, h2]
    rw [hdr] at p7
    simp only [lcL] at p7
    have env2 : EnvR K g2 H2 H0 (wipe σ own) (wipeE ρ own) := (a.env.stp t2).wipe own
    split at p7
    case h_1 => cases p7
    case h_2 ρ' hρ =>
      obtain ⟨b, S3, e3, p7⟩ := ofBind p7
      refine ⟨g2, p, _, ρ', S2, H0, ⟨env2, y3⟩, y4, hρ, fun σ2 v2 s2 => ⟨wipe_in ht s2, g2, ρ', S2, H0, b, S3, ⟨v2, y3⟩, e3, fun g3 H3 t3 st3 => ?_⟩⟩
      have t13 : Stp g1 H1 g3 H3 := (p1.tr y2 st1 p2).tr t3 st1 y3
      have q3 : H3 D = some (.lst vs) := t3.f _ _ (y2.f _ _ p3 p6) (y2.nb p3 p6)
      have n3 : g3.G D = none := t3.ng (y2.f _ _ p3 p6) (y2.ng p3 p5)
      have b3 : D ∉ g3.B := t3.nb (y2.f _ _ p3 p6) (y2.nb p3 p6)
      have r3 : Rps K g3 vs acc := (p4.stp y2).stp t3
      cases b with
      | false =>
        rw [if_neg Bool.false_ne_true] at p7
        refine iteF ?_
        exact ⟨g3, S3, acc, vs, t13, st3, q3, r3, n3, b3, p7⟩
      | true =>
        rw [if_pos rfl] at p7
        refine iteT ?_
        obtain ⟨z, S4, e4, p7⟩ := ofBind p7
        obtain ⟨hl, p7⟩ := ofChk p7
        refine ⟨g3, ρ', S3, H0, z, S4, ⟨v2.stp t3, st3⟩, e4, fun g4 zv H4 t4 st4 r4 => ?_⟩
        have q4 : H4 D = some (.lst vs) := t4.f _ _ q3 b3
        have n4 : g4.G D = none := t4.ng q3 n3
        have b4 : D ∉ g4.B := t4.nb q3 b3
        refine ⟨vs, q4, by rw [r3.length, line_L]; exact Nat.le_of_ble_eq_true hl, g4, S4, acc ++ [z], vs ++ [zv], (t13.tr t4 st1 st3).poke _ hD, st4.poke _ n4 b4, upd_same, (r3.stp t4).append (.cons r4 .nil), n4, b4, p7⟩
theorem rps_strs {K : Frag} {g : Gh} : ∀ ys : List PySem.Str, Rps K g (ys.map V.str) (ys.map fun z => PV.str z.cps.toList)
  | [] => .nil
  | y :: ys => .cons (by
      have e : V.str y = V.str (toS y.cps.toList) := by simp [toS]
      rw [e]
      exact .str _) (rps_strs ys)
/-- a walk, in general -/
theorem w_it {J : It} {n : Nat} {G : Hp → Prop} {Y : Nat → Hp → V → Hp → Prop} (w : Walk J n G Y) {Bd : (Hp → Prop) → V → Hp → Prop} {Qd : Hp → Prop} {H0 : Hp} (Pv : Nat → Hp → Prop) (h0 : Pv 0 H0) (hG : ∀ i H, i ≤ n → Pv i H → G H)
    (hs : ∀ i x H H', i < n → Pv i H → Y i H x H' → Bd (Pv (i + 1)) x H') (hd : ∀ H, Pv n H → Qd H) :
    ∃ W : Nat → Nat → Hp → Prop, (∃ m, W 0 m H0) ∧ ∀ i m H, W i m H → (J.stop i H ∧ Qd H) ∨ (J.go i H ∧ ∃ Nx : Hp → Prop, (∀ H', Nx H' → ∃ m', m' < m ∧ W (i + 1) m' H') ∧ ∀ x H', J.yld i H x H' → Bd Nx x H') := by
  refine ⟨fun i m H => m = n - i ∧ i ≤ n ∧ Pv i H, ⟨n, by simp, Nat.zero_le _, h0⟩, ?_⟩
  rintro i m H ⟨rfl, hi, p⟩
  have q := hG i H hi p
  by_cases hlt : i < n
  · refine .inr ⟨w.goes i H hlt q, Pv (i + 1), fun H' p' => ⟨n - (i + 1), by omega, rfl, hlt, p'⟩, fun x H' y => hs i x H H' hlt p (w.yields i H x H' hlt q y)⟩
  · have e : i = n := by omega
    subst e
    exact .inl ⟨w.stops H q, hd H p⟩
/-! dicts that come new -/
theorem dc_read {K : Frag} {c : Ct} {own : List Nat} {t : Tg} {it : I} {cs : List T} {ek el : E} {σ : L2.St} {H : Hp} {Q : VK} (ht : ∀ j ∈ tgSlots t, j ∈ own) (q : tE K c (.dc own t it cs ek el) σ H Q) :
    tLk (tDc (tI K c it) (gT K t) (tTTs K c cs) (tE K c ek) (tE K c el) own) σ H Q := by
  obtain ⟨g, ρ, S, H0, rp, S', a, e, k⟩ := q
  simp only [evE] at e
  obtain ⟨items, S1, e1, e⟩ := ofBind e
  obtain ⟨dd, Sx, e, ex⟩ := ofBind e
  cases ex
  refine ⟨g, ρ, S, H0, items, S1, a, e1, fun g1 J H1 t1 st1 enm D hD => ?_⟩
  obtain ⟨G, Y, w, hG, hY⟩ := enm.ex
  have gD : g1.G D = none := by
    cases z : g1.G D with
    | none => rfl
    | some o => rw [st1.sub D o z] at hD; cases hD
  have bD : D ∉ g1.B := fun z => st1.ok D z hD
  have HD : H D = none := by
    cases z : H D with
    | none => rfl
    | some o =>
      by_cases m : D ∈ g.B
      · exact absurd hD (st1.ok D (t1.bsub m))
      · rw [t1.f D o z m] at hD; cases hD
  refine w_it w (fun i H' => ∃ g' S2 ks vs kvs, Stp g1 H1 g' H' ∧ StR K g' H' S2 ∧ H' D = some (.dK kvs) ∧ kvs.map (·.1) = ks.map kyK ∧ Rps K g' (kvs.map (·.2)) vs ∧ g'.G D = none ∧ D ∉ g'.B ∧ dcL t (fun ρ S => evTs c cs ρ S) (fun ρ S => evE c ek ρ S) (fun ρ S => evE c el ρ S) (wipeE ρ own) (items.drop i) ks vs S2 = .ok dd S')
    ?h0 (fun i H' _ ⟨g', S2, ks, vs, kvs, p1, p2, _⟩ => hG g' H' S2 p1 p2) ?hs ?hd
  case h0 =>
    obtain ⟨t2, st2⟩ := st1.junk hD (.dK [])
    exact ⟨g1, S1, [], [], [], t2, st2, upd_same, rfl, .nil, gD, bD, e⟩
  case hd =>
    rintro H' ⟨g', S2, ks, vs, kvs, p1, p2, p3, p30, p4, p5, p6, p7⟩
    rw [List.drop_length] at p7
    simp only [dcL, Res.ok.injEq] at p7
    obtain ⟨rfl, rfl⟩ := p7
    have tt := t1.tr p1 a.st st1
    exact ⟨D, kvs, rfl, p3, fun od => k _ _ _ (tt.lockL (.frz od (.dK kvs)) HD p5) (p2.lockL p3 p5 p6)
      (.dct upd_same p30 (Rps.mono (g := g') (g' := ⟨upd g'.G D (.frz od (.dK kvs)), g'.B⟩) (fun a' o' e' => by show upd g'.G D _ a' = some o'; rw [upd_ne (fun z => by rw [z, p5] at e'; cases e')]; exact e') (fun _ _ h => h) p4))⟩
  case hs =>
    rintro i x H' H2 hi ⟨g', S2, ks, vs, kvs, p1, p2, p3, p30, p4, p5, p6, p7⟩ y
    obtain ⟨g2, p, y1, y2, y3, y4⟩ := hY i g' H' S2 x H2 hi p1 p2 y
    have t2 : Stp g H g2 H2 := (t1.tr p1 a.st st1).tr y2 a.st p2
    have hdr : items.drop i = p :: items.drop (i + 1) := by
      obtain ⟨h1, h2⟩ := List.getElem?_eq_some_iff.mp y1
      rw [List.drop_eq_getElem_cons h1, h2]
    rw [hdr] at p7
    simp only [dcL] at p7
    have env2 : EnvR K g2 H2 H0 (wipe σ own) (wipeE ρ own) := (a.env.stp t2).wipe own
    split at p7
    case h_1 => cases p7
    case h_2 ρ' hρ =>
      obtain ⟨b, S3, e3, p7⟩ := ofBind p7
      refine ⟨g2, p, _, ρ', S2, H0, ⟨env2, y3⟩, y4, hρ, fun σ2 v2 s2 => ⟨wipe_in ht s2, g2, ρ', S2, H0, b, S3, ⟨v2, y3⟩, e3, fun g3 H3 t3 st3 => ?_⟩⟩
      have t13 : Stp g1 H1 g3 H3 := (p1.tr y2 st1 p2).tr t3 st1 y3
      have q3 : H3 D = some (.dK kvs) := t3.f _ _ (y2.f _ _ p3 p6) (y2.nb p3 p6)
      have n3 : g3.G D = none := t3.ng (y2.f _ _ p3 p6) (y2.ng p3 p5)
      have b3 : D ∉ g3.B := t3.nb (y2.f _ _ p3 p6) (y2.nb p3 p6)
      have r3 : Rps K g3 (kvs.map (·.2)) vs := (p4.stp y2).stp t3
      cases b with
      | false =>
        rw [if_neg Bool.false_ne_true] at p7
        refine iteF ?_
        exact ⟨g3, S3, ks, vs, kvs, t13, st3, q3, p30, r3, n3, b3, p7⟩
      | true =>
        rw [if_pos rfl] at p7
        refine iteT ?_
        obtain ⟨zk, S4, e4, p7⟩ := ofBind p7
        obtain ⟨z, S5, e5, p7⟩ := ofBind p7
        split at p7
        case h_1 => cases p7
        case h_2 ky hky =>
          obtain ⟨hl, p7⟩ := ofChk p7
          refine ⟨g3, ρ', S3, H0, zk, S4, ⟨v2.stp t3, st3⟩, e4, fun g4 kv H4 t4 st4 r4 => ⟨g4, ρ', S4, H0, z, S5, ⟨(v2.stp t3).stp t4, st4⟩, e5, fun g5 zv H5 t5 st5 r5 => ?_⟩⟩
          have q4 : H4 D = some (.dK kvs) := t4.f _ _ q3 b3
          have n4 : g4.G D = none := t4.ng q3 n3
          have b4 : D ∉ g4.B := t4.nb q3 b3
          have q5 : H5 D = some (.dK kvs) := t5.f _ _ q4 b4
          have n5 : g5.G D = none := t5.ng q4 n4
          have b5 : D ∉ g5.B := t5.nb q4 b4
          have r3' : Rps K g5 (kvs.map (·.2)) vs := (r3.stp t4).stp t5
          have lk : Lk K g4 H4 kv zk := RdO.lk0 st4 (.inl r4)
          have len : kvs.length = ks.length := by
            have := congrArg List.length p30
            simpa using this
          refine ⟨kvs, kyK ky, kyOf_V lk hky, q5, by rw [len, line_L]; exact Nat.le_of_ble_eq_true hl, ?_⟩
          have t15 : Stp g1 H1 g5 H5 := (t13.tr t4 st1 st3).tr t5 st1 st4
          by_cases hm : ky ∈ ks
          · rw [if_pos hm] at p7
            obtain ⟨w1, w2⟩ := put_in r5 p30 r3' hm
            exact ⟨g5, S5, ks, putDv ky z ks vs, putK kvs (kyK ky) zv, t15.poke _ hD, st5.poke _ n5 b5, upd_same, w1, w2, n5, b5, p7⟩
          · rw [if_neg hm] at p7
            obtain ⟨w1, w2⟩ := put_out r5 p30 r3' hm
            exact ⟨g5, S5, ks ++ [ky], vs ++ [z], putK kvs (kyK ky) zv, t15.poke _ hD, st5.poke _ n5 b5, upd_same, w1, w2, n5, b5, p7⟩
/-! two walks within one another -/
def NoOwn (ρ : Env) : Prop := ∀ (i : Nat) m, ρ[i]? ≠ some (.hold m)
theorem mask_noOwn (ρ : Env) : NoOwn (ρ.map Slot.mask) := fun i xs h => by
  rw [List.getElem?_map] at h
  cases q : ρ[i]? with
  | none => rw [q] at h; cases h
  | some s => rw [q] at h; cases s <;> simp [Slot.mask] at h
theorem EnvR.mask {K : Frag} {g : Gh} {H H0 : Hp} {σ : L2.St} {ρ : Env} (e : EnvR K g H H0 σ ρ) : EnvR K g H H0 σ (ρ.map Slot.mask) where
  len := by rw [List.length_map]; exact e.len
  val := fun i p h => by
    rw [List.getElem?_map] at h
    cases q : ρ[i]? with
    | none => rw [q] at h; cases h
    | some s =>
      rw [q] at h
      cases s <;> simp [Slot.mask] at h
      subst h
      exact e.val i _ q
  own := fun i xs h => absurd h (mask_noOwn ρ i xs)
  apart := fun i j xs ys a _ h _ _ => absurd h (mask_noOwn ρ i xs)
theorem EnvR.vals {K : Frag} {g g' : Gh} {H H' H0 : Hp} {σ : L2.St} {ρ : Env} (e : EnvR K g H H0 σ ρ) (no : NoOwn ρ) (hg : ∀ a o, g.G a = some o → g'.G a = some o) (hb : ∀ (n : Nat) (a : Addr), g.B[n]? = some a → g'.B[n]? = some a) : EnvR K g' H' H0 σ ρ where
  len := e.len
  val := fun i p h => by
    obtain ⟨v, h1, h2⟩ := e.val i p h
    exact ⟨v, h1, h2.mono hg hb⟩
  own := fun i xs h => absurd h (no i xs)
  apart := fun i j xs ys a _ h _ _ => absurd h (no i xs)
theorem set_noOwn {ρ : Env} (h : NoOwn ρ) (i : Nat) (p : PV) : NoOwn (ρ.set i (.val p)) := fun j xs q => by
  by_cases hj : i = j
  · subst hj
    by_cases hl : i < ρ.length
    · rw [List.getElem?_set_self hl] at q; cases q
    · rw [List.getElem?_eq_none (by simpa using hl)] at q; cases q
  · rw [List.getElem?_set_ne hj] at q
    exact h j xs q
mutual
theorem asg_noOwn : ∀ (t : Tg) {p : PV} {ρ ρ' : Env}, asg t p ρ = some ρ' → NoOwn ρ → NoOwn ρ'
  | .nm i, p, ρ, ρ', h, n => by
    unfold asg at h
    cases h
    exact set_noOwn n i p
  | .tp ts, p, ρ, ρ', h, n => by
    unfold asg at h
    cases p <;> first | (cases h; done) | skip
    all_goals exact asgs_noOwn ts h n
theorem asgs_noOwn : ∀ (ts : List Tg) {ps : List PV} {ρ ρ' : Env}, asgs ts ps ρ = some ρ' → NoOwn ρ → NoOwn ρ'
  | [], ps, ρ, ρ', h, n => by
    unfold asgs at h
    cases ps <;> first | (cases h; done) | skip
    cases h
    exact n
  | t :: ts, ps, ρ, ρ', h, n => by
    unfold asgs at h
    cases ps <;> first | (cases h; done) | skip
    rename_i p ps
    simp only [Option.bind_eq_some_iff] at h
    obtain ⟨ρ1, h1, h2⟩ := h
    exact asgs_noOwn ts h2 (asg_noOwn t h1 n)
end
theorem wipe_noOwn {ρ : Env} (h : NoOwn ρ) : ∀ l : List Nat, NoOwn (wipeE ρ l) := fun l i xs q => by
  rcases wipeE_get q with z | ⟨z, _⟩
  · cases z
  · exact h i xs z
/-- a walk over what stays, whatever else changes -/
structure EnmV (K : Frag) (g : Gh) (J : It) (xs : List PV) : Prop where
  ex : ∃ (G : Hp → Prop) (Y : Nat → Hp → V → Hp → Prop), Walk J xs.length G Y ∧ (∀ g' H' S', (∀ a o, g.G a = some o → g'.G a = some o) → StR K g' H' S' → G H') ∧
    ∀ i H' x H2, i < xs.length → Y i H' x H2 → H2 = H' ∧ ∃ p, xs[i]? = some p ∧ Rp K g x p
theorem enmV_lst {K : Frag} {g : Gh} {a : Addr} {vs : List V} {xs : List PV} (s : SqX K g.G a vs) (r : Rps K g vs xs) : EnmV K g (Itl K a) xs := by
  refine ⟨fun H => SqL K H a vs, YAt vs, by rw [← r.length]; exact walk_list, fun g' H' S' hg st => (st.sql (sql_mono hg s)).l, fun i H' x H2 hi y => ?_⟩
  obtain ⟨e1, e2⟩ := y
  obtain ⟨p, h1, h2⟩ := r.getV e2
  exact ⟨e1, p, h1, h2⟩
theorem enmV_tup {K : Frag} {g : Gh} {a : Addr} {vs : List V} {xs : List PV} (s : SqT K g.G a vs) (r : Rps K g vs xs) : EnmV K g (Itt K a) xs := by
  refine ⟨fun H => SqT K H a vs, YAt vs, by rw [← r.length]; exact walk_tup, fun g' H' S' hg st => st.sqt (sqt_mono hg s), fun i H' x H2 hi y => ?_⟩
  obtain ⟨e1, e2⟩ := y
  obtain ⟨p, h1, h2⟩ := r.getV e2
  exact ⟨e1, p, h1, h2⟩
theorem enmV_str {K : Frag} {g : Gh} {x : Sg} : EnmV K g (Its (toS x)) (x.map fun c => .str [c]) := by
  refine ⟨fun _ => True, fun i H v H' => H' = H ∧ ∃ c, (toS x).cps[i]? = some c ∧ v = .str ⟨#[c]⟩, ?_, fun _ _ _ _ _ => trivial, fun i H' v H2 hi y => ?_⟩
  · rw [List.length_map, show x.length = (toS x).cps.size by simp [toS]]
    exact walk_str
  · obtain ⟨e1, c, e2, e3⟩ := y
    subst e3
    refine ⟨e1, .str [c], ?_, .str [c]⟩
    have : x[i]? = some c := by simpa [toS] using e2
    rw [List.getElem?_map, this]; rfl
theorem lc2_read {K : Frag} {c : Ct} {own own1 : List Nat} {t t1 : Tg} {it : I} {it1 : E} {cs cs1 : List T} {el : E} {σ : L2.St} {H : Hp} {Q : VK} (ht : ∀ j ∈ tgSlots t, j ∈ own) (ht1 : ∀ j ∈ tgSlots t1, j ∈ own1) (q : tF K c (.lc2 own own1 t it cs t1 it1 cs1 el) σ H Q) :
    tLc2 (tI K c it) (gT K t) (tTTs K c cs) (iSeq K (tE K c it1)) (gT K t1) (tTTs K c cs1) (tE K c el) own own1 σ H Q := by
  obtain ⟨g, ρ, S, H0, xs, S', a, e, k⟩ := q
  simp only [evF] at e
  obtain ⟨items, S1, e1, e⟩ := ofBind e
  refine ⟨g, ρ, S, H0, items, S1, a, e1, fun g1 J H1 t1' st1 enm D hD => ?_⟩
  obtain ⟨G, Y, w, hG, hY⟩ := enm.ex
  have gD : g1.G D = none := by
    cases z : g1.G D with
    | none => rfl
    | some o => rw [st1.sub D o z] at hD; cases hD
  have bD : D ∉ g1.B := fun z => st1.ok D z hD
  have HD : H D = none := by
    cases z : H D with
    | none => rfl
    | some o =>
      by_cases m : D ∈ g.B
      · exact absurd hD (st1.ok D (t1'.bsub m))
      · rw [t1'.f D o z m] at hD; cases hD
  generalize hinn : (fun (ρ : Env) (ys acc : List PV) (S : Sto) => lcL t1 (fun ρ S => evTs c cs1 ρ S) (fun ρ S => evE c el ρ S) (wipeE ρ own1) ys acc S) = inn at e
  generalize hwi : (fun (ρ : Env) (S : Sto) => (evE c it1 ρ S).bind fun p S => .opt S (itemsOf p)) = wi at e
  have now : NoOwn ((wipeE ρ own).map Slot.mask) := mask_noOwn _
  refine w_it w (fun i H' => ∃ g' S2 acc vs, Stp g1 H1 g' H' ∧ StR K g' H' S2 ∧ H' D = some (.lst vs) ∧ Rps K g' vs acc ∧ g'.G D = none ∧ D ∉ g'.B ∧ lc2L t (fun ρ S => evTs c cs ρ S) wi inn ((wipeE ρ own).map Slot.mask) (items.drop i) acc S2 = .ok xs S')
    ?h0 (fun i H' _ ⟨g', S2, acc, vs, p1, p2, _⟩ => hG g' H' S2 p1 p2) ?hs ?hd
  case h0 =>
    obtain ⟨t2, st2⟩ := st1.junk hD (.lst [])
    exact ⟨g1, S1, [], [], t2, st2, upd_same, .nil, gD, bD, e⟩
  case hd =>
    rintro H' ⟨g', S2, acc, vs, p1, p2, p3, p4, p5, p6, p7⟩
    rw [List.drop_length] at p7
    simp only [lc2L, Res.ok.injEq] at p7
    obtain ⟨rfl, rfl⟩ := p7
    exact k g' D vs H' (t1'.tr p1 a.st st1) p2 p3 p4 p5 p6 HD
  case hs =>
    rintro i x H' H2 hi ⟨g', S2, acc, vs, p1, p2, p3, p4, p5, p6, p7⟩ y
    obtain ⟨g2, p, y1, y2, y3, y4⟩ := hY i g' H' S2 x H2 hi p1 p2 y
    have t2 : Stp g H g2 H2 := (t1'.tr p1 a.st st1).tr y2 a.st p2
    have hdr : items.drop i = p :: items.drop (i + 1) := by
      obtain ⟨h1, h2⟩ := List.getElem?_eq_some_iff.mp y1
      rw [List.drop_eq_getElem_cons h1, h2]
    rw [hdr] at p7
    simp only [lc2L] at p7
    have env2 : EnvR K g2 H2 H0 (wipe σ own) ((wipeE ρ own).map Slot.mask) := ((a.env.stp t2).wipe own).mask
    split at p7
    case h_1 => cases p7
    case h_2 ρ' hρ =>
      have no' : NoOwn ρ' := asg_noOwn t hρ now
      obtain ⟨b, S3, e3, p7⟩ := ofBind p7
      refine ⟨g2, p, _, ρ', S2, H0, ⟨env2, y3⟩, y4, hρ, fun σ2 v2 s2 => ⟨wipe_in ht s2, g2, ρ', S2, H0, b, S3, ⟨v2, y3⟩, e3, fun g3 H3 t3 st3 => ?_⟩⟩
      have t13 : Stp g1 H1 g3 H3 := (p1.tr y2 st1 p2).tr t3 st1 y3
      have q3 : H3 D = some (.lst vs) := t3.f _ _ (y2.f _ _ p3 p6) (y2.nb p3 p6)
      have n3 : g3.G D = none := t3.ng (y2.f _ _ p3 p6) (y2.ng p3 p5)
      have b3 : D ∉ g3.B := t3.nb (y2.f _ _ p3 p6) (y2.nb p3 p6)
      have r3 : Rps K g3 vs acc := (p4.stp y2).stp t3
      cases b with
      | false =>
        rw [if_neg Bool.false_ne_true] at p7
        refine iteF ?_
        exact ⟨g3, S3, acc, vs, t13, st3, q3, r3, n3, b3, p7⟩
      | true =>
        rw [if_pos rfl] at p7
        refine iteT ?_
        obtain ⟨ys, S4, e4, p7⟩ := ofBind p7
        obtain ⟨acc5, S5, e5, p7⟩ := ofBind p7
        subst hwi
        obtain ⟨py, S4', e4, e4'⟩ := ofBind e4
        obtain ⟨e6, e7⟩ := ofOpt e4'
        subst e7
        refine ⟨g3, ρ', S3, H0, py, _, ⟨v2.stp t3, st3⟩, e4, fun g4 pv H4 t4 st4 r4 => ?_⟩
        have q4 : H4 D = some (.lst vs) := t4.f _ _ q3 b3
        have n4 : g4.G D = none := t4.ng q3 n3
        have b4 : D ∉ g4.B := t4.nb q3 b3
        have v4 : EnvR K g4 H4 H0 σ2 ρ' := (v2.stp t3).stp t4
        have inner : ∀ J1, EnmV K g4 J1 ys → ∃ W1 : Nat → Nat → Hp → Prop, (∃ m, W1 0 m H4) ∧ ∀ j k H, W1 j k H → (J1.stop j H ∧ ∃ g' S2 acc vs, Stp g1 H1 g' H ∧ StR K g' H S2 ∧ H D = some (.lst vs) ∧ Rps K g' vs acc ∧ g'.G D = none ∧ D ∉ g'.B ∧ lc2L t (fun ρ S => evTs c cs ρ S) (fun (ρ : Env) (S : Sto) => (evE c it1 ρ S).bind fun p S => .opt S (itemsOf p)) inn ((wipeE ρ own).map Slot.mask) (items.drop (i + 1)) acc S2 = .ok xs S') ∨
            (J1.go j H ∧ ∃ Nx1 : Hp → Prop, (∀ H', Nx1 H' → ∃ k', k' < k ∧ W1 (j + 1) k' H') ∧ ∀ x H', J1.yld j H x H' → gT K t1 x (wipe σ2 own1) H' fun σ3 H5 => wipe σ3 own1 = wipe σ2 own1 ∧ tTTs K c cs1 σ3 H5 fun b H6 =>
              if b = true then tE K c el σ3 H6 fun y H7 => ∃ acc, H7 D = some (.lst acc) ∧ acc.length < sizeLine ∧ Nx1 (upd H7 D (.lst (acc ++ [y]))) else Nx1 H6) := by
          intro J1 enm1
          obtain ⟨G1, Y1, w1, hG1, hY1⟩ := enm1.ex
          refine w_it w1 (fun j H' => ∃ g' S6 acc6 vs6, Stp g1 H1 g' H' ∧ (∀ a o, g4.G a = some o → g'.G a = some o) ∧ (∀ (n : Nat) (a : Addr), g4.B[n]? = some a → g'.B[n]? = some a) ∧ StR K g' H' S6 ∧ H' D = some (.lst vs6) ∧ Rps K g' vs6 acc6 ∧ g'.G D = none ∧ D ∉ g'.B ∧
              lcL t1 (fun ρ S => evTs c cs1 ρ S) (fun ρ S => evE c el ρ S) (wipeE ρ' own1) (ys.drop j) acc6 S6 = .ok acc5 S5) ?k0 (fun j H' _ ⟨g', S6, acc6, vs6, z1, z2, z3, z4, _⟩ => hG1 g' H' S6 z2 z4) ?ks ?kd
          case k0 =>
            refine ⟨g4, _, acc, vs, t13.tr t4 st1 st3, fun _ _ h => h, fun _ _ h => h, st4, q4, r3.stp t4, n4, b4, ?_⟩
            rw [← e5, ← hinn]
            rfl
          case kd =>
            rintro H' ⟨g', S6, acc6, vs6, z1, z2, z3, z4, z5, z6, z7, z8, z9⟩
            rw [List.drop_length] at z9
            simp only [lcL, Res.ok.injEq] at z9
            obtain ⟨rfl, rfl⟩ := z9
            exact ⟨g', _, _, vs6, z1, z4, z5, z6, z7, z8, p7⟩
          case ks =>
            rintro j x1 H5 H6 hj ⟨g', S6, acc6, vs6, z1, z2, z3, z4, z5, z6, z7, z8, z9⟩ yy
            obtain ⟨rfl, p1', u1, u2⟩ := hY1 j H5 x1 H6 hj yy
            have hdr1 : ys.drop j = p1' :: ys.drop (j + 1) := by
              obtain ⟨h1, h2⟩ := List.getElem?_eq_some_iff.mp u1
              rw [List.drop_eq_getElem_cons h1, h2]
            rw [hdr1] at z9
            simp only [lcL] at z9
            have env5 : EnvR K g' H6 H0 (wipe σ2 own1) (wipeE ρ' own1) := (v4.vals no' z2 z3).wipe own1
            have no5 : NoOwn (wipeE ρ' own1) := wipe_noOwn no' own1
            split at z9
            case h_1 => cases z9
            case h_2 ρ5 hρ5 =>
              obtain ⟨b1, S7, e8, z9⟩ := ofBind z9
              refine ⟨g', p1', _, ρ5, S6, H0, ⟨env5, z4⟩, u2.mono z2 z3, hρ5, fun σ3 v3 s3 => ⟨wipe_in ht1 s3, g', ρ5, S6, H0, b1, S7, ⟨v3, z4⟩, e8, fun g7 H7 t7 st7 => ?_⟩⟩
              have hm1 : ∀ a o, g4.G a = some o → g7.G a = some o := fun a o h => t7.gs a o (z2 a o h)
              have hm2 : ∀ (n : Nat) (a : Addr), g4.B[n]? = some a → g7.B[n]? = some a := fun n a h => t7.bget (z3 n a h)
              have q7 : H7 D = some (.lst vs6) := t7.f _ _ z5 z8
              have n7 : g7.G D = none := t7.ng z5 z7
              have b7 : D ∉ g7.B := t7.nb z5 z8
              cases b1 with
              | false =>
                rw [if_neg Bool.false_ne_true] at z9
                refine iteF ?_
                exact ⟨g7, S7, acc6, vs6, z1.tr t7 st1 z4, hm1, hm2, st7, q7, z6.stp t7, n7, b7, z9⟩
              | true =>
                rw [if_pos rfl] at z9
                refine iteT ?_
                obtain ⟨z, S8, e9, z9⟩ := ofBind z9
                obtain ⟨hl, z9⟩ := ofChk z9
                refine ⟨g7, ρ5, S7, H0, z, S8, ⟨v3.stp t7, st7⟩, e9, fun g8 zv H8 t8 st8 r8 => ?_⟩
                have q8 : H8 D = some (.lst vs6) := t8.f _ _ q7 b7
                have n8 : g8.G D = none := t8.ng q7 n7
                have b8 : D ∉ g8.B := t8.nb q7 b7
                refine ⟨vs6, q8, by rw [z6.length, line_L]; exact Nat.le_of_ble_eq_true hl, g8, S8, acc6 ++ [z], vs6 ++ [zv], ((z1.tr t7 st1 z4).tr t8 st1 st7).poke _ hD, fun a o h => t8.gs a o (hm1 a o h), fun n a h => t8.bget (hm2 n a h), st8.poke _ n8 b8, upd_same, ((z6.stp t7).stp t8).append (.cons r8 .nil), n8, b8, z9⟩
        cases py <;> simp only [itemsOf, reduceCtorEq, Option.some.injEq] at e6
        case str x' =>
          subst e6
          cases r4
          exact .inr (.inr ⟨_, rfl, inner _ enmV_str⟩)
        case tup ys' =>
          subst e6
          cases r4 with
          | tup s4 q4' => exact .inr (.inl ⟨_, rfl, ⟨_, st4.sqt s4⟩, inner _ (enmV_tup s4 q4')⟩)
        case lst ys' =>
          subst e6
          cases r4 with
          | lst s4 q4' => exact .inl ⟨_, rfl, ⟨_, (st4.sql s4).l⟩, inner _ (enmV_lst s4 q4')⟩
mutual
theorem sE : ∀ (m : E) {X : Cx}, OkX D c n X → ∀ (e : Expr), chkE D X.env.scope.names m e = true → PE X e (tE X.K c m)
  | .v i, X, o, e, h => by
    cases e <;> simp only [chkE, Bool.false_eq_true] at h
    simp only [Bool.and_eq_true] at h
    obtain ⟨⟨h1, h2⟩, h3⟩ := h
    obtain ⟨k1, k2, k3⟩ := okN_of h3
    refine PE.weak (pe_var (by rw [o.N]; exact atN_ok h1) (vis_of h2) k1 k2) fun σ H Q q => ?_
    obtain ⟨g, ρ, S, H0, p, S', a, e, k⟩ := q
    simp only [evE] at e
    split at e
    case h_1 p' hp =>
      cases e
      obtain ⟨v, h4, h5⟩ := a.env.val i _ hp
      exact ⟨v, h4, k g v H (.refl _ _) a.st h5⟩
    case h_2 => cases e
  | .non, X, o, e, h => by
    cases e <;> first | (simp [chkE] at h; done) | skip
    rename_i v _ _
    cases v <;> first | (simp [chkE] at h; done) | skip
    refine PE.weak pe_non fun σ H Q q => ?_
    obtain ⟨g, ρ, S, H0, p, S', a, e, k⟩ := q
    cases e
    exact k g _ H (.refl _ _) a.st .non
  | .bl b, X, o, e, h => by
    cases e <;> first | (simp [chkE] at h; done) | skip
    rename_i v _ _
    cases v <;> first | (simp [chkE] at h; done) | skip
    simp only [chkE, beq_iff_eq] at h
    subst h
    refine PE.weak pe_bl fun σ H Q q => ?_
    obtain ⟨g, ρ, S, H0, p, S', a, e, k⟩ := q
    cases e
    exact k g _ H (.refl _ _) a.st (.bl _)
  | .int i, X, o, e, h => by
    cases e <;> first | (simp [chkE] at h; done) | skip
    rename_i v _ _
    cases v <;> first | (simp [chkE] at h; done) | skip
    simp only [chkE, decide_eq_true_eq] at h
    subst h
    refine PE.weak pe_int fun σ H Q q => ?_
    obtain ⟨g, ρ, S, H0, p, S', a, e, k⟩ := q
    cases e
    exact k g _ H (.refl _ _) a.st (.int _)
  | .str x, X, o, e, h => by
    cases e <;> first | (simp [chkE] at h; done) | skip
    rename_i v _ _
    cases v <;> first | (simp [chkE] at h; done) | skip
    rename_i y
    simp only [chkE] at h
    have e2 : toS x = y := by
      obtain ⟨⟨y⟩⟩ := y
      have : x = y := eqL_ok h
      rw [this]
    subst e2
    refine PE.weak pe_str fun σ H Q q => ?_
    obtain ⟨g, ρ, S, H0, p, S', a, e, k⟩ := q
    cases e
    exact k g _ H (.refl _ _) a.st (.str _)
  | .glob i, X, o, e, h => by
    cases e <;> simp only [chkE, Bool.false_eq_true] at h
    simp only [Bool.and_eq_true] at h
    obtain ⟨⟨h1, h2⟩, h3⟩ := h
    refine ⟨fun pins s σ H Q I q => ?_⟩
    obtain ⟨g, ρ, S, H0, p, S', a, e, k⟩ := q
    simp only [evE] at e
    obtain ⟨e1, e2⟩ := ofOpt e
    subst e2
    obtain ⟨u, v, hm, r, rp⟩ := o.cns i _ p (atN_ok h1) e1
    exact (pe_glob (glo_of h2) hm r (okN_of h3).1).run pins s σ H Q I (k g v H (.refl _ _) a.st (rp g))
  | .bin b l r, X, o, e, h => by
    cases e <;> simp only [chkE, Bool.false_eq_true] at h
    simp only [Bool.and_eq_true] at h
    obtain ⟨⟨h1, h2⟩, h3⟩ := h
    rw [← bopB_ok h1]
    refine PE.weak (pe_op (op_bin b) (sO l o _ h2) (sO r o _ h3)) fun σ H Q q => ?_
    obtain ⟨g, ρ, S, H0, p, S', a, e, k⟩ := q
    simp only [evE] at e
    obtain ⟨p1, S1, e1, e⟩ := ofBind e
    obtain ⟨p2, S2, e2, e⟩ := ofBind e
    obtain ⟨e3, e4⟩ := ofOpt e
    subst e4
    exact op2 a e1 e2 fun g' x y H' t st rx ry => ⟨g', _, p1, p2, p, st, rx, ry, e3, fun g3 v3 H3 t3 st3 r3 => k g3 v3 H3 (t.tr t3 a.st st) st3 r3⟩
  | .neg b, X, o, e, h => by
    cases e <;> first | (simp [chkE] at h; done) | skip
    rename_i op x pos
    cases op <;> first | (simp [chkE] at h; done) | skip
    simp only [chkE] at h
    refine PE.weak (pe_un un_negB (sE b o _ h)) fun σ H Q q => ?_
    obtain ⟨g, ρ, S, H0, p, S', a, e, k⟩ := q
    simp only [evE] at e
    obtain ⟨p1, S1, e1, e⟩ := ofBind e
    split at e
    case h_1 i hi =>
      cases e
      refine ⟨g, ρ, S, H0, _, _, a, e1, fun g1 v H1 t1 st1 r1 => ?_⟩
      cases p1 <;> first | (simp [ngI] at hi; done) | skip
      · cases hi
        cases r1
        exact .inr ⟨_, rfl, k g1 _ H1 t1 st1 (.int _)⟩
      · cases hi
        cases r1
        exact .inl ⟨_, rfl, k g1 _ H1 t1 st1 (.int _)⟩
    case h_2 => cases e
  | .not b, X, o, e, h => by
    cases e <;> first | (simp [chkE] at h; done) | skip
    rename_i op x pos
    cases op <;> first | (simp [chkE] at h; done) | skip
    simp only [chkE] at h
    refine PE.weak (pe_notT (sO b o _ h)) fun σ H Q q => ?_
    obtain ⟨g, ρ, S, H0, p, S', a, e, k⟩ := q
    simp only [evE] at e
    obtain ⟨p1, S1, e1, e⟩ := ofBind e
    split at e
    case h_1 z hz =>
      cases e
      exact ⟨g, ρ, S, H0, _, _, a, e1, fun g1 v H1 t1 st1 r1 => ⟨z, lk_tru (r1.lk st1) hz, k g1 _ H1 t1 st1 (.bl _)⟩⟩
    case h_2 => cases e
  | .cmp b l r, X, o, e, h => by
    cases e with
    | Compare x ops ys pos =>
      match ops, ys, h with
      | [op], [y], h =>
        simp only [chkE, Bool.and_eq_true] at h
        obtain ⟨⟨⟨h1, h2⟩, h3⟩, h4⟩ := h
        rw [← copB_ok h1]
        refine PE.weak (pe_cmpR (op_cmp o.hu b) (sO l o _ h3) (sO r o _ h4) (mark_no h2)) fun σ H Q q => ?_
        obtain ⟨g, ρ, S, H0, p, S', a, e, k⟩ := q
        simp only [evE] at e
        obtain ⟨p1, S1, e1, e⟩ := ofBind e
        obtain ⟨p2, S2, e2, e⟩ := ofBind e
        split at e
        case h_1 z hz =>
          cases e
          exact op2 a e1 e2 fun g' x y H' t st rx ry => ⟨g', _, _, _, z, st, rx.lk st, ry.lk st, hz, k g' _ H' t st (.bl _)⟩
        case h_2 => cases e
    | _ => simp [chkE] at h
  | .chain b b' l r s, X, o, e, h => by
    cases e with
    | Compare x ops ys pos =>
      match ops, ys, h with
      | [op, op'], [y, z], h =>
        simp only [chkE, Bool.and_eq_true] at h
        obtain ⟨⟨⟨⟨⟨⟨h1, h2⟩, h3⟩, h4⟩, h5⟩, h6⟩, h7⟩ := h
        rw [← copB_ok h1, ← copB_ok h2]
        refine PE.weak (pe_chain (op_cmp o.hu b) (op_cmp o.hu b') (sO l o _ h5) (sO r o _ h6) (sO s o _ h7) (marks_no h4)) fun σ H Q q => ?_
        obtain ⟨g, ρ, S, H0, p, S', a, e, k⟩ := q
        simp only [evE] at e
        obtain ⟨p1, S1, e1, e⟩ := ofBind e
        obtain ⟨p2, S2, e2, e⟩ := ofBind e
        refine op2 (R := fun x y H Q => RC X (cmpPV b) x y H fun z H3 => ∃ k, z = .bl k ∧ (if k = true then tO X.K c s σ H3 fun w' H4 => RC X (cmpPV b') y w' H4 Q else Q (.bl false) H3)) a e1 e2 fun g' x y H' t st rx ry => ?_
        split at e
        case h_1 hz =>
          obtain ⟨p3, S3, e3, e⟩ := ofBind e
          refine ⟨g', _, _, _, true, st, rx.lk st, ry.lk st, hz, true, rfl, ?_⟩
          rw [if_pos rfl]
          split at e
          case h_1 z' hz' =>
            cases e
            exact ⟨g', ρ, _, H0, p3, _, a.after t st, e3, fun g3 v3 H3 t3 st3 r3 => ⟨g3, _, _, _, z', st3, (ry.stp t3).lk st3, r3.lk st3, hz', k g3 _ H3 (t.tr t3 a.st st) st3 (.bl _)⟩⟩
          case h_2 => cases e
        case h_2 hz =>
          cases e
          refine ⟨g', _, _, _, false, st, rx.lk st, ry.lk st, hz, false, rfl, ?_⟩
          rw [if_neg Bool.false_ne_true]
          exact k g' _ H' t st (.bl _)
        case h_3 => cases e
    | _ => simp [chkE] at h
  | .and l r, X, o, e, h => by
    cases e with
    | BoolOp op vs pos =>
      match op, vs, h with
      | .And, x :: y :: rest, h =>
        simp only [chkE, Bool.and_eq_true] at h
        obtain ⟨h1, h2⟩ := h
        have hr : PE X (.BoolOp .And (y :: rest) pos) (tE X.K c r) := by
          cases rest with
          | nil => exact pe_one (sE r o _ h2)
          | cons z zs => exact sE r o _ h2
        refine PE.weak (pe_andT (sE l o _ h1) hr) fun σ H Q q => ?_
        obtain ⟨g, ρ, S, H0, p, S', a, e, k⟩ := q
        simp only [evE] at e
        obtain ⟨p1, S1, e1, e⟩ := ofBind e
        split at e
        case h_1 hz => exact ⟨g, ρ, S, H0, p1, S1, a, e1, fun g1 v H1 t1 st1 r1 => ⟨true, lk_tru (RdO.lk st1 (.inl r1)) hz, by
            rw [if_pos rfl]
            exact ⟨g1, ρ, S1, H0, p, S', a.after t1 st1, e, fun g2 v2 H2 t2 st2 r2 => k g2 v2 H2 (t1.tr t2 a.st st1) st2 r2⟩⟩⟩
        case h_2 hz =>
          cases e
          exact ⟨g, ρ, S, H0, _, _, a, e1, fun g1 v H1 t1 st1 r1 => ⟨false, lk_tru (RdO.lk st1 (.inl r1)) hz, by
            rw [if_neg Bool.false_ne_true]
            exact k g1 v H1 t1 st1 r1⟩⟩
        case h_3 => cases e
    | _ => simp [chkE] at h
  | .or l r, X, o, e, h => by
    cases e with
    | BoolOp op vs pos =>
      match op, vs, h with
      | .Or, x :: y :: rest, h =>
        simp only [chkE, Bool.and_eq_true] at h
        obtain ⟨h1, h2⟩ := h
        have hr : PE X (.BoolOp .Or (y :: rest) pos) (tE X.K c r) := by
          cases rest with
          | nil => exact pe_one (sE r o _ h2)
          | cons z zs => exact sE r o _ h2
        refine PE.weak (pe_orT (sE l o _ h1) hr) fun σ H Q q => ?_
        obtain ⟨g, ρ, S, H0, p, S', a, e, k⟩ := q
        simp only [evE] at e
        obtain ⟨p1, S1, e1, e⟩ := ofBind e
        split at e
        case h_1 hz => exact ⟨g, ρ, S, H0, p1, S1, a, e1, fun g1 v H1 t1 st1 r1 => ⟨false, lk_tru (RdO.lk st1 (.inl r1)) hz, by
            rw [if_neg Bool.false_ne_true]
            exact ⟨g1, ρ, S1, H0, p, S', a.after t1 st1, e, fun g2 v2 H2 t2 st2 r2 => k g2 v2 H2 (t1.tr t2 a.st st1) st2 r2⟩⟩⟩
        case h_2 hz =>
          cases e
          exact ⟨g, ρ, S, H0, _, _, a, e1, fun g1 v H1 t1 st1 r1 => ⟨true, lk_tru (RdO.lk st1 (.inl r1)) hz, by
            rw [if_pos rfl]
            exact k g1 v H1 t1 st1 r1⟩⟩
        case h_3 => cases e
    | _ => simp [chkE] at h
  | .ife t l r, X, o, e, h => by
    cases e <;> simp only [chkE, Bool.false_eq_true] at h
    simp only [Bool.and_eq_true] at h
    obtain ⟨⟨h1, h2⟩, h3⟩ := h
    refine PE.weak (pe_ifExp (sT t o _ h1) (sE l o _ h2) (sE r o _ h3)) fun σ H Q q => ?_
    obtain ⟨g, ρ, S, H0, p, S', a, e, k⟩ := q
    simp only [evE] at e
    obtain ⟨b, S1, e1, e⟩ := ofBind e
    refine ⟨g, ρ, S, H0, b, S1, a, e1, fun g1 H1 t1 st1 => ?_⟩
    cases b with
    | true => exact ⟨g1, ρ, S1, H0, p, S', a.after t1 st1, e, fun g2 v2 H2 t2 st2 r2 => k g2 v2 H2 (t1.tr t2 a.st st1) st2 r2⟩
    | false => exact ⟨g1, ρ, S1, H0, p, S', a.after t1 st1, e, fun g2 v2 H2 t2 st2 r2 => k g2 v2 H2 (t1.tr t2 a.st st1) st2 r2⟩
  | .tup es, X, o, e, h => by
    cases e <;> simp only [chkE, Bool.false_eq_true] at h
    refine PE.weak (pe_tup (sEs es o _ h)) fun σ H Q q => ?_
    obtain ⟨g, ρ, S, H0, p, S', a, e, k⟩ := q
    simp only [evE] at e
    obtain ⟨ps, S1, e1, e⟩ := ofBind e
    obtain ⟨hl, e⟩ := ofChk e
    cases e
    refine ⟨g, ρ, S, H0, ps, _, a, e1, fun g1 vs H1 t1 st1 r1 => ⟨by rw [r1.length, line_L]; exact Nat.le_of_ble_eq_true hl, fun p hp => ?_⟩⟩
    obtain ⟨t2, st2⟩ := st1.put hp (.tup vs)
    exact k _ _ _ (t1.tr t2 a.st st1) st2 (.tup (.inl (.inl upd_same)) (r1.stp t2))
  | .fr f, X, o, e, h => by
    have h' : chkF D X.env.scope.names f e = true := by cases e <;> simpa only [chkE] using h
    refine PE.weak (sF f o e h') fun σ H Q q => ?_
    obtain ⟨g, ρ, S, H0, p, S', a, e, k⟩ := q
    simp only [evE] at e
    obtain ⟨xs, S1, e1, e⟩ := ofBind e
    cases e
    exact ⟨g, ρ, S, H0, xs, _, a, e1, fun g1 p vs H1 t1 st1 hp r1 n1 n2 n3 => k _ _ _ (t1.keepL (.lst vs) n3 n1) (st1.keepL hp n1 n2)
      (.lst (.inl (.inl upd_same)) (Rps.mono (g := g1) (g' := ⟨upd g1.G p (.lst vs), g1.B⟩) (fun a' o' e' => by show upd g1.G p _ a' = some o'; rw [upd_ne (fun z => by rw [z, n1] at e'; cases e')]; exact e') (fun _ _ h => h) r1))⟩
  | .new f, X, o, e, h => by
    have h' : chkF D X.env.scope.names f e = true := by cases e <;> simpa only [chkE] using h
    refine PE.weak (sF f o e h') fun σ H Q q => ?_
    obtain ⟨g, ρ, S, H0, p, S', a, e, k⟩ := q
    simp only [evE] at e
    obtain ⟨xs, S1, e1, e⟩ := ofBind e
    cases e
    refine ⟨g, ρ, S, H0, xs, _, a, e1, fun g1 p vs H1 t1 st1 hp r1 n1 n2 n3 => k _ _ _ (t1.alloc n3) (st1.alloc hp r1 n1 n2) (.ref ?_)⟩
    show (g1.B ++ [p])[S1.length]? = some p
    rw [← st1.len, List.getElem?_append_right (Nat.le_refl _)]
    simp
  | .ix l r, X, o, e, h => by
    cases e <;> simp only [chkE, Bool.false_eq_true] at h
    case Subscript x i pos =>
    simp only [Bool.and_eq_true] at h
    obtain ⟨⟨h1, h2⟩, h3⟩ := h
    refine PE.weak (pe_ix (op_ixp o.hu) (sO l o _ h2) (sE r o _ h3) (plain_ix h1)) fun σ H Q q => ?_
    obtain ⟨g, ρ, S, H0, p, S', a, e, k⟩ := q
    simp only [evE] at e
    obtain ⟨p1, S1, e1, e⟩ := ofBind e
    obtain ⟨p2, S2, e2, e⟩ := ofBind e
    obtain ⟨e3, e4⟩ := ofOpt e
    subst e4
    exact ⟨g, ρ, S, H0, p1, S1, a, e1, fun g1 v1 H1 t1 st1 r1 => ⟨g1, ρ, S1, H0, p2, _, a.after t1 st1, e2, fun g2 v2 H2 t2 st2 r2 =>
      ⟨g2, _, _, p2, p, st2, (r1.stp t2).lk st2, r2, e3, fun g3 v3 H3 t3 st3 r3 => k g3 v3 H3 ((t1.tr t2 a.st st1).tr t3 a.st st2) st3 r3⟩⟩⟩
  | .sl l lo hi, X, o, e, h => by
    cases e <;> first | (simp [chkE] at h; done) | skip
    rename_i x i pos
    cases i <;> first | (simp [chkE] at h; done) | skip
    rename_i l' h' s' p2
    cases s' <;> first | (simp [chkE] at h; done) | skip
    simp only [chkE, Bool.and_eq_true] at h
    obtain ⟨⟨h1, h2⟩, h3⟩ := h
    refine PE.weak (pe_slice op_slp (sO l o _ h1) (sB lo o _ h2) (sB hi o _ h3)) fun σ H Q q => ?_
    obtain ⟨g, ρ, S, H0, p, S', a, e, k⟩ := q
    simp only [evE] at e
    obtain ⟨p1, S1, e1, e⟩ := ofBind e
    obtain ⟨p2, S2, e2, e⟩ := ofBind e
    obtain ⟨p3, S3, e3, e⟩ := ofBind e
    obtain ⟨e4, e5⟩ := ofOpt e
    subst e5
    exact ⟨g, ρ, S, H0, p1, S1, a, e1, fun g1 v1 H1 t1 st1 r1 => ⟨g1, ρ, S1, H0, p2, _, a.after t1 st1, e2, fun g2 H2 t2 st2 => ⟨g2, ρ, S2, H0, p3, _, (a.after t1 st1).after t2 st2, e3, fun g3 H3 t3 st3 =>
      ⟨g3, _, p1, p, st3, (r1.stp t2).stp t3, e4, fun g4 v4 H4 t4 st4 r4 => k g4 v4 H4 (((t1.tr t2 a.st st1).tr t3 a.st st2).tr t4 a.st st3) st4 r4⟩⟩⟩⟩
  | .call f es, X, o, e, h => by
    cases e with
    | Call fn xs kws pos =>
      match fn, kws, h with
      | .Name x p, [], h =>
        simp only [chkE, Bool.and_eq_true] at h
        obtain ⟨⟨⟨h1, h2⟩, h3⟩, h4⟩ := h
        exact pe_def o h1 h2 h3 (chkEs_star h4) (chkEs_len h4) (sEs es o _ h4)
    | _ => simp [chkE] at h
  | .blt f es, X, o, e, h => by
    cases e with
    | Call fn xs kws pos =>
      match fn, kws, h with
      | .Name x p, [], h =>
        simp only [chkE, Bool.and_eq_true, Bool.not_eq_true'] at h
        obtain ⟨⟨⟨h1, h2⟩, h3⟩, h4⟩ := h
        obtain ⟨k1, k2⟩ := free_of o h2
        have ex := eqS_ok h1
        subst ex
        cases xs with
        | nil => simp at h3
        | cons y ys =>
          refine PE.weak (pe_blt (call_bl o.calm o.hu o.gd f) k1 k2 (sOs es o _ h4) (star_cons (chkOs_star h4 y List.mem_cons_self)) (stars_no fun e he => chkOs_star h4 e (List.mem_cons_of_mem _ he))) fun σ H Q q => ?_
          obtain ⟨g, ρ, S, H0, p, S', a, e, k⟩ := q
          simp only [evE] at e
          obtain ⟨ps, S1, e1, e⟩ := ofBind e
          obtain ⟨e3, e4⟩ := ofOpt e
          subst e4
          exact ⟨g, ρ, S, H0, ps, _, a, e1, fun g1 vs H1 t1 st1 r1 => ⟨g1, _, ps, p, st1, r1, e3, fun g3 v3 H3 t3 st3 r3 => k g3 v3 H3 (t1.tr t3 a.st st1) st3 r3⟩⟩
    | _ => simp [chkE] at h
  | .isi l t, X, o, e, h => by
    cases e with
    | Call fn xs kws pos =>
      match fn, xs, kws, h with
      | .Name x p, [y, .Name z p2], [], h =>
        simp only [chkE, Bool.and_eq_true] at h
        obtain ⟨⟨⟨⟨⟨h1, h2⟩, h3⟩, h4⟩, h5⟩, h6⟩ := h
        obtain ⟨k1, k2⟩ := free_of o h2
        obtain ⟨k3, k4⟩ := free_of o h4
        have ex := eqS_ok h1
        have ez := eqS_ok h3
        subst ex ez
        obtain ⟨b1, b2, b3⟩ := tyS_ok t
        refine PE.weak (pe_callB (call_isip t) k1 k2 boot_isi (pa_cons (sE l o _ h6) (pa_cons (pe_bltn (v := .ty (tyN t)) k3 k4 b1 rfl b2 b3) pa_nil (star_cons rfl)) (star_cons h5)) (by decide) (by decide) (star_cons h5) (stars_no (by simp [noStar]))) fun σ H Q q => ?_
        obtain ⟨g, ρ, S, H0, p, S', a, e, k⟩ := q
        simp only [evE] at e
        obtain ⟨p1, S1, e1, e⟩ := ofBind e
        refine ⟨g, ρ, S, H0, p1, S1, a, e1, fun g1 v1 H1 t1 st1 r1 => ?_⟩
        have lk := RdO.lk st1 (.inl r1)
        split at e
        case h_1 => cases e
        case h_2 => cases e
        case h_3 => cases e
        case h_4 n1 n2 n3 =>
          cases e
          exact ⟨g1, _, v1, rfl, lk, n1, n3, k g1 _ H1 t1 st1 (.bl _)⟩
    | _ => simp [chkE] at h
  | .met .join r es, X, o, e, h => by
    match es, e, h with
    | [a], .Call (.Attribute oe mm apos) [x] [] cpos, h =>
      simp only [chkE, Bool.and_eq_true] at h
      obtain ⟨⟨⟨⟨⟨h1, h2⟩, h3⟩, h4⟩, h5⟩, h6⟩ := h
      have em := eqS_ok h1
      subst em
      exact s_join o h2 h3 h4 (sO r o oe h5) (sO a o x h6)
    | [a], .Call (.Attribute oe mm apos) [] _ cpos, h => simp [chkE] at h
  | .met .count r es, X, o, e, h => by
    match es, e, h with
    | [a], .Call (.Attribute oe mm apos) [x] [] cpos, h =>
      simp only [chkE, Bool.and_eq_true] at h
      obtain ⟨⟨⟨⟨⟨h1, h2⟩, h3⟩, h4⟩, h5⟩, h6⟩ := h
      have em := eqS_ok h1
      subst em
      exact s_count o h2 h3 h4 (sO r o oe h5) (sO a o x h6)
    | [a], .Call (.Attribute oe mm apos) [] _ cpos, h => simp [chkE] at h
  | .met .index r es, X, o, e, h => by
    match es, e, h with
    | [a], .Call (.Attribute oe mm apos) [x] [] cpos, h =>
      simp only [chkE, Bool.and_eq_true] at h
      obtain ⟨⟨⟨⟨⟨h1, h2⟩, h3⟩, h4⟩, h5⟩, h6⟩ := h
      have em := eqS_ok h1
      subst em
      exact s_index o h2 h3 h4 (sO r o oe h5) (sO a o x h6)
    | [a], .Call (.Attribute oe mm apos) [] _ cpos, h => simp [chkE] at h
  | .met .split r es, X, o, e, h => by simp [chkE] at h
  | .get2 r kk dd, X, o, e, h => by
    match e, h with
    | .Call (.Attribute oe mm apos) [x, y] [] cpos, h =>
      simp only [chkE, Bool.and_eq_true] at h
      obtain ⟨⟨⟨⟨⟨⟨⟨h1, h2⟩, h3⟩, h4⟩, h4'⟩, h5⟩, h6⟩, h7⟩ := h
      have em := eqS_ok h1
      subst em
      exact s_get2 o h2 h3 h4 h4' (sO r o oe h5) (sE kk o x h6) (sE dd o y h7)
  | .lens m, X, o, e, h => by
    match e, h with
    | .Call (.Name x p) [.Call (.Name y py) [e1] [] pos2] [] pos, h =>
      simp only [chkE, Bool.and_eq_true] at h
      obtain ⟨⟨⟨⟨⟨h1, h2⟩, h3⟩, h4⟩, h5⟩, h6⟩ := h
      obtain ⟨k1, k2⟩ := free_of o h2
      obtain ⟨k3, k4⟩ := free_of o h4
      have ex := eqS_ok h1
      subst ex
      have ey := eqS_ok h3
      subst ey
      exact s_lens o k1 k2 k3 k4 h5 (sO m o _ h6)
  | .tupr m, X, o, e, h => by
    match e, h with
    | .Call (.Name x p) [.Call (.Name y py) [e1] [] pos2] [] pos, h =>
      simp only [chkE, Bool.and_eq_true] at h
      obtain ⟨⟨⟨⟨⟨h1, h2⟩, h3⟩, h4⟩, h5⟩, h6⟩ := h
      obtain ⟨k1, k2⟩ := free_of o h2
      obtain ⟨k3, k4⟩ := free_of o h4
      have ex := eqS_ok h1
      subst ex
      have ey := eqS_ok h3
      subst ey
      exact s_tupr o k1 k2 k3 k4 h5 (sE m o _ h6)
  | .dictp m, X, o, e, h => by
    cases e with
    | Call fn xs kws pos =>
      match fn, xs, kws, h with
      | .Name x p, [y], [], h =>
        simp only [chkE, Bool.and_eq_true] at h
        obtain ⟨⟨⟨h1, h2⟩, h3⟩, h4⟩ := h
        obtain ⟨k1, k2⟩ := free_of o h2
        have ex := eqS_ok h1
        subst ex
        exact s_dictp o k1 k2 h3 (sO m o _ h4)
    | _ => simp [chkE] at h
  | .dc own t it cs ek el, X, o, e, h => by
    cases e with
    | DictComp kx vx gens scope pos =>
      match gens, h with
      | [⟨tg, iter, ifs, isA⟩], h =>
        simp only [chkE, Bool.and_eq_true, decide_eq_true_eq] at h
        obtain ⟨⟨⟨⟨⟨⟨⟨⟨h0, h1⟩, h2⟩, h3⟩, h4⟩, h5⟩, h6⟩, h7⟩, h8⟩ := h
        subst h0
        have b := blkOk_by h1
        have ok : BlkOk X.N X.env.scope scope (ownN D.N own) := ⟨b.kind, b.uniq, by rw [o.N]; exact b.ix, b.free, by rw [o.N]; exact b.own⟩
        have hk : ∀ (C : Addr) (cl : List (Str × Addr)), (compEnvC scope cl C X.env).scope.kind = .function := fun _ _ => b.kind
        have hn : ∀ (C : Addr) (cl : List (Str × Addr)), (compEnvC scope cl C X.env).scope.names = relN scope.names X.env.scope.names := fun C cl => rel_names o.kd
        refine PE.weak (pe_lk (pe_dc (g := gT X.K t) (tt := tTTs X.K c cs) (tk := tE X.K c ek) (tv := tE X.K c el) o.calm (by rw [o.N]; exact o.nd) (sI it o tg iter h4) ok
          (fun s H C cl fp => sTg (o.blk s H scope (compEnvC scope cl C X.env) fp (hk C cl)) (fun x hx => hx) t tg (by show chkTg D.N (compEnvC scope cl C X.env).scope.names _ t tg = true; rw [hn]; exact h5))
          (fun s H C cl fp => sTs cs (o.blk s H scope (compEnvC scope cl C X.env) fp (hk C cl)) ifs (by show chkTs D (compEnvC scope cl C X.env).scope.names cs ifs = true; rw [hn]; exact h6))
          (fun s H C cl fp => sE ek (o.blk s H scope (compEnvC scope cl C X.env) fp (hk C cl)) kx (by show chkE D (compEnvC scope cl C X.env).scope.names ek kx = true; rw [hn]; exact h7))
          (fun s H C cl fp => sE el (o.blk s H scope (compEnvC scope cl C X.env) fp (hk C cl)) vx (by show chkE D (compEnvC scope cl C X.env).scope.names el vx = true; rw [hn]; exact h8)) (fold_no h2))) fun σ H Q q => ?_
        rw [ownN_snd]
        exact dc_read (K := X.K) (c := c) (ht := fun j hj => by
          have := List.all_eq_true.mp h3 j hj
          simpa using this) q
    | _ => simp [chkE] at h
theorem sEs : ∀ (ms : List E) {X : Cx}, OkX D c n X → ∀ (es : List Expr), chkEs D X.env.scope.names ms es = true → PA X es (tEs X.K c ms)
  | [], X, o, es, h => by
    cases es <;> simp only [chkEs, Bool.false_eq_true] at h
    refine PA.weak pa_nil fun σ H Q q => ?_
    obtain ⟨g, ρ, S, H0, ps, S', a, e, k⟩ := q
    cases e
    exact k g [] H (.refl _ _) a.st .nil
  | m :: ms, X, o, es, h => by
    cases es <;> simp only [chkEs, Bool.false_eq_true] at h
    simp only [Bool.and_eq_true] at h
    refine PA.weak (pa_cons (sE m o _ h.1.2) (sEs ms o _ h.2) (star_cons h.1.1)) fun σ H Q q => ?_
    obtain ⟨g, ρ, S, H0, ps, S', a, e, k⟩ := q
    simp only [evEs] at e
    obtain ⟨p1, S1, e1, e⟩ := ofBind e
    obtain ⟨p2, S2, e2, e⟩ := ofBind e
    cases e
    exact ⟨g, ρ, S, H0, p1, S1, a, e1, fun g1 v1 H1 t1 st1 r1 => ⟨g1, ρ, S1, H0, p2, _, a.after t1 st1, e2, fun g2 vs H2 t2 st2 r2 => k g2 _ H2 (t1.tr t2 a.st st1) st2 (.cons (r1.stp t2) r2)⟩⟩
theorem sO : ∀ (m : O) {X : Cx}, OkX D c n X → ∀ (e : Expr), chkO D X.env.scope.names m e = true → PE X e (tO X.K c m)
  | .own i, X, o, e, h => by
    cases e <;> simp only [chkO, Bool.false_eq_true] at h
    simp only [Bool.and_eq_true] at h
    obtain ⟨⟨h1, h2⟩, h3⟩ := h
    obtain ⟨k1, k2, k3⟩ := okN_of h3
    refine PE.weak (pe_var (by rw [o.N]; exact atN_ok h1) (vis_of h2) k1 k2) fun σ H Q q => ?_
    obtain ⟨g, ρ, S, H0, p, S', a, e, k⟩ := q
    simp only [evO] at e
    split at e
    case h_1 xs hp =>
      cases e
      obtain ⟨ad, h4, h5, h6, h7, h8, _⟩ := a.env.own i _ hp
      exact ⟨_, h4, k g _ H (.refl _ _) a.st (.inr ⟨ad, _, rfl, rfl, h5, h6, h7, h8⟩)⟩
    case h_2 ks xs hp =>
      cases e
      obtain ⟨ad, h4, h5, h6, h7, h8, _⟩ := a.env.own i _ hp
      exact ⟨_, h4, k g _ H (.refl _ _) a.st (.inr ⟨ad, _, rfl, rfl, h5, h6, h7, h8⟩)⟩
    case h_3 => cases e
  | .e m, X, o, e, h => by
    have h' : chkE D X.env.scope.names m e = true := by cases e <;> simpa only [chkO] using h
    refine PE.weak (sE m o e h') fun σ H Q q => ?_
    obtain ⟨g, ρ, S, H0, p, S', a, e, k⟩ := q
    simp only [evO] at e
    exact ⟨g, ρ, S, H0, p, S', a, e, fun g1 v H1 t1 st1 r1 => k g1 v H1 t1 st1 (.inl r1)⟩
theorem sOs : ∀ (ms : List O) {X : Cx}, OkX D c n X → ∀ (es : List Expr), chkOs D X.env.scope.names ms es = true → PA X es (tOs X.K c ms)
  | [], X, o, es, h => by
    cases es <;> simp only [chkOs, Bool.false_eq_true] at h
    refine PA.weak pa_nil fun σ H Q q => ?_
    obtain ⟨g, ρ, S, H0, ps, S', a, e, k⟩ := q
    cases e
    exact k g [] H (.refl _ _) a.st .nil
  | m :: ms, X, o, es, h => by
    cases es <;> simp only [chkOs, Bool.false_eq_true] at h
    simp only [Bool.and_eq_true] at h
    refine PA.weak (pa_cons (sO m o _ h.1.2) (sOs ms o _ h.2) (star_cons h.1.1)) fun σ H Q q => ?_
    obtain ⟨g, ρ, S, H0, ps, S', a, e, k⟩ := q
    simp only [evOs] at e
    obtain ⟨p1, S1, e1, e⟩ := ofBind e
    obtain ⟨p2, S2, e2, e⟩ := ofBind e
    cases e
    exact ⟨g, ρ, S, H0, p1, S1, a, e1, fun g1 v1 H1 t1 st1 r1 => ⟨g1, ρ, S1, H0, p2, _, a.after t1 st1, e2, fun g2 vs H2 t2 st2 r2 => k g2 _ H2 (t1.tr t2 a.st st1) st2 (.cons (r1.stp t2) r2)⟩⟩
theorem sB : ∀ (m : B) {X : Cx}, OkX D c n X → ∀ (e : Option Expr), chkB D X.env.scope.names m e = true → PO X e (tB X.K c m)
  | .no, X, o, e, h => by
    cases e <;> simp only [chkB, Bool.false_eq_true] at h
    refine PO.weak po_none fun σ H Q q => ?_
    obtain ⟨g, ρ, S, H0, p, S', a, e, k⟩ := q
    cases e
    exact k g H (.refl _ _) a.st
  | .e m, X, o, e, h => by
    cases e <;> simp only [chkB, Bool.false_eq_true] at h
    refine PO.weak (po_some (sE m o _ h)) fun σ H Q q => ?_
    obtain ⟨g, ρ, S, H0, p, S', a, e, k⟩ := q
    simp only [evB] at e
    obtain ⟨p1, S1, e1, e⟩ := ofBind e
    split at e
    case h_1 i =>
      cases e
      refine ⟨g, ρ, S, H0, _, _, a, e1, fun g1 v H1 t1 st1 r1 => ?_⟩
      cases r1
      exact ⟨i, rfl, k g1 H1 t1 st1⟩
    case h_2 => cases e
theorem sT : ∀ (m : T) {X : Cx}, OkX D c n X → ∀ (e : Expr), chkT D X.env.scope.names m e = true → PT X e (tTT X.K c m)
  | .and l r, X, o, e, h => by
    cases e with
    | BoolOp op vs pos =>
      match op, vs, h with
      | .And, x :: y :: rest, h =>
        simp only [chkT, Bool.and_eq_true] at h
        obtain ⟨h1, h2⟩ := h
        have hr : PW X (.BoolOp .And (y :: rest) pos) (tTT X.K c r) := by
          cases rest with
          | nil => exact pw_and1 (sT r o _ h2)
          | cons z zs => exact pw_of (sT r o _ h2) (fun _ _ => rfl)
        refine PT.weak (pw_and (sT l o _ h1) hr).pt fun σ H Q q => ?_
        obtain ⟨g, ρ, S, H0, p, S', a, e, k⟩ := q
        simp only [evT] at e
        obtain ⟨b, S1, e1, e⟩ := ofBind e
        refine ⟨g, ρ, S, H0, b, S1, a, e1, fun g1 H1 t1 st1 => ?_⟩
        cases b with
        | true => exact ⟨g1, ρ, S1, H0, p, S', a.after t1 st1, e, fun g2 H2 t2 st2 => k g2 H2 (t1.tr t2 a.st st1) st2⟩
        | false => cases e; exact k g1 H1 t1 st1
    | _ => simp [chkT] at h
  | .or l r, X, o, e, h => by
    cases e with
    | BoolOp op vs pos =>
      match op, vs, h with
      | .Or, x :: y :: rest, h =>
        simp only [chkT, Bool.and_eq_true] at h
        obtain ⟨h1, h2⟩ := h
        have hr : PW X (.BoolOp .Or (y :: rest) pos) (tTT X.K c r) := by
          cases rest with
          | nil => exact pw_or1 (sT r o _ h2)
          | cons z zs => exact pw_of (sT r o _ h2) (fun _ _ => rfl)
        refine PT.weak (pw_or (sT l o _ h1) hr).pt fun σ H Q q => ?_
        obtain ⟨g, ρ, S, H0, p, S', a, e, k⟩ := q
        simp only [evT] at e
        obtain ⟨b, S1, e1, e⟩ := ofBind e
        refine ⟨g, ρ, S, H0, b, S1, a, e1, fun g1 H1 t1 st1 => ?_⟩
        cases b with
        | true => cases e; exact k g1 H1 t1 st1
        | false => exact ⟨g1, ρ, S1, H0, p, S', a.after t1 st1, e, fun g2 H2 t2 st2 => k g2 H2 (t1.tr t2 a.st st1) st2⟩
    | _ => simp [chkT] at h
  | .not b, X, o, e, h => by
    cases e <;> first | (simp [chkT] at h; done) | skip
    rename_i op x pos
    cases op <;> first | (simp [chkT] at h; done) | skip
    simp only [chkT] at h
    refine PT.weak (pt_not (sT b o _ h)) fun σ H Q q => ?_
    obtain ⟨g, ρ, S, H0, p, S', a, e, k⟩ := q
    simp only [evT] at e
    obtain ⟨z, S1, e1, e⟩ := ofBind e
    cases e
    exact ⟨g, ρ, S, H0, z, _, a, e1, fun g1 H1 t1 st1 => k g1 H1 t1 st1⟩
  | .cmp b l r, X, o, e, h => by
    cases e with
    | Compare x ops ys pos =>
      match ops, ys, h with
      | [op], [y], h =>
        simp only [chkT, Bool.and_eq_true] at h
        obtain ⟨⟨⟨h1, h2⟩, h3⟩, h4⟩ := h
        rw [← copB_ok h1]
        refine PT.weak (pt_cmpR (op_cmp o.hu b) (sO l o _ h3) (sO r o _ h4) (mark_no h2)) fun σ H Q q => ?_
        obtain ⟨g, ρ, S, H0, p, S', a, e, k⟩ := q
        simp only [evT] at e
        obtain ⟨p1, S1, e1, e⟩ := ofBind e
        obtain ⟨p2, S2, e2, e⟩ := ofBind e
        obtain ⟨e3, e4⟩ := ofOpt e
        subst e4
        exact op2 a e1 e2 fun g' x y H' t st rx ry => ⟨g', _, _, _, p, st, rx.lk st, ry.lk st, e3, p, rfl, k g' H' t st⟩
    | _ => simp [chkT] at h
  | .chain b b' l r s, X, o, e, h => by
    cases e with
    | Compare x ops ys pos =>
      match ops, ys, h with
      | [op, op'], [y, z], h =>
        simp only [chkT, Bool.and_eq_true] at h
        obtain ⟨⟨⟨⟨⟨⟨h1, h2⟩, h3⟩, h4⟩, h5⟩, h6⟩, h7⟩ := h
        rw [← copB_ok h1, ← copB_ok h2]
        refine PT.weak (pt_chain (op_cmp o.hu b) (op_cmp o.hu b') (sO l o _ h5) (sO r o _ h6) (sO s o _ h7) (marks_no h4)) fun σ H Q q => ?_
        obtain ⟨g, ρ, S, H0, p, S', a, e, k⟩ := q
        simp only [evT] at e
        obtain ⟨p1, S1, e1, e⟩ := ofBind e
        obtain ⟨p2, S2, e2, e⟩ := ofBind e
        refine op2 (Q := fun x H' => ∃ k, x = .bl k ∧ Q k H') (R := fun x y H Q => RC X (cmpPV b) x y H fun z H3 => ∃ k, z = .bl k ∧ (if k = true then tO X.K c s σ H3 fun w' H4 => RC X (cmpPV b') y w' H4 Q else Q (.bl false) H3)) a e1 e2 fun g' x y H' t st rx ry => ?_
        split at e
        case h_1 hz =>
          obtain ⟨p3, S3, e3, e⟩ := ofBind e
          obtain ⟨e4, e5⟩ := ofOpt e
          subst e5
          refine ⟨g', _, _, _, true, st, rx.lk st, ry.lk st, hz, true, rfl, ?_⟩
          rw [if_pos rfl]
          exact ⟨g', ρ, _, H0, p3, _, a.after t st, e3, fun g3 v3 H3 t3 st3 r3 => ⟨g3, _, _, _, p, st3, (ry.stp t3).lk st3, r3.lk st3, e4, p, rfl, k g3 H3 (t.tr t3 a.st st) st3⟩⟩
        case h_2 hz =>
          cases e
          refine ⟨g', _, _, _, false, st, rx.lk st, ry.lk st, hz, false, rfl, ?_⟩
          rw [if_neg Bool.false_ne_true]
          exact ⟨false, rfl, k g' H' t st⟩
        case h_3 => cases e
    | _ => simp [chkT] at h
  | .tr m, X, o, e, h => by
    have h' : plainT e = true ∧ chkO D X.env.scope.names m e = true := by cases e <;> simpa only [chkT, Bool.and_eq_true] using h
    refine PT.weak (pt_truth (sO m o e h'.2) (test_plain h'.1)) fun σ H Q q => ?_
    obtain ⟨g, ρ, S, H0, p, S', a, e, k⟩ := q
    simp only [evT] at e
    obtain ⟨p1, S1, e1, e⟩ := ofBind e
    obtain ⟨e3, e4⟩ := ofOpt e
    subst e4
    exact ⟨g, ρ, S, H0, p1, _, a, e1, fun g1 v H1 t1 st1 r1 => ⟨p, lk_tru (r1.lk st1) e3, k g1 H1 t1 st1⟩⟩
theorem sTs : ∀ (ms : List T) {X : Cx}, OkX D c n X → ∀ (es : List Expr), chkTs D X.env.scope.names ms es = true → PTs X es (tTTs X.K c ms)
  | [], X, o, es, h => by
    cases es <;> simp only [chkTs, Bool.false_eq_true] at h
    refine ⟨fun pins s σ H Q I q => pts_nil.run pins s σ H Q I ?_⟩
    obtain ⟨g, ρ, S, H0, p, S', a, e, k⟩ := q
    cases e
    exact k g H (.refl _ _) a.st
  | [m], X, o, es, h => by
    match es, h with
    | [e], h =>
      simp only [chkTs] at h
      refine ⟨fun pins s σ H Q I q => (pts_one (sT m o e h)).run pins s σ H Q I ?_⟩
      obtain ⟨g, ρ, S, H0, p, S', a, e, k⟩ := q
      simp only [evTs] at e
      obtain ⟨b, S1, e1, e⟩ := ofBind e
      refine ⟨g, ρ, S, H0, b, S1, a, e1, fun g1 H1 t1 st1 => ?_⟩
      cases b <;> (simp at e; obtain ⟨e2, e3⟩ := e; subst e2 e3; exact k g1 H1 t1 st1)
  | _ :: _ :: _, X, o, es, h => by
    match es, h with
    | [], h => cases h
    | [_], h => cases h
    | _ :: _ :: _, h => cases h
theorem sF : ∀ (m : F) {X : Cx}, OkX D c n X → ∀ (e : Expr), chkF D X.env.scope.names m e = true → PE X e (tF X.K c m)
  | .callO f es, X, o, e, h => by
    cases e with
    | Call fn xs kws pos =>
      match fn, kws, h with
      | .Name x p, [], h =>
        simp only [chkF, Bool.and_eq_true] at h
        obtain ⟨⟨⟨h1, h2⟩, h3⟩, h4⟩ := h
        exact pe_defO o h1 h2 h3 (chkEs_star h4) (chkEs_len h4) (sEs es o _ h4)
    | _ => simp [chkF] at h
  | .lst es, X, o, e, h => by
    cases e <;> simp only [chkF, Bool.false_eq_true] at h
    refine PE.weak (pe_lst (sEs es o _ h)) fun σ H Q q => ?_
    obtain ⟨g, ρ, S, H0, p, S', a, e, k⟩ := q
    simp only [evF] at e
    obtain ⟨ps, S1, e1, e⟩ := ofBind e
    obtain ⟨hl, e⟩ := ofChk e
    cases e
    refine ⟨g, ρ, S, H0, _, _, a, e1, fun g1 vs H1 t1 st1 r1 => ⟨by rw [r1.length, line_L]; exact Nat.le_of_ble_eq_true hl, fun p hp => ?_⟩⟩
    exact newL k a t1 st1 r1 hp
  | .lc own t it cs el, X, o, e, h => by
    cases e with
    | ListComp elt gens scope pos =>
      match gens, h with
      | [⟨tg, iter, ifs, isA⟩], h =>
        simp only [chkF, Bool.and_eq_true, decide_eq_true_eq] at h
        obtain ⟨⟨⟨⟨⟨⟨⟨h0, h1⟩, h2⟩, h3⟩, h4⟩, h5⟩, h6⟩, h7⟩ := h
        subst h0
        have b := blkOk_by h1
        have ok : BlkOk X.N X.env.scope scope (ownN D.N own) := ⟨b.kind, b.uniq, by rw [o.N]; exact b.ix, b.free, by rw [o.N]; exact b.own⟩
        have hk : ∀ (C : Addr) (cl : List (Str × Addr)), (compEnvC scope cl C X.env).scope.kind = .function := fun _ _ => b.kind
        have hn : ∀ (C : Addr) (cl : List (Str × Addr)), (compEnvC scope cl C X.env).scope.names = relN scope.names X.env.scope.names := fun C cl => rel_names o.kd
        refine PE.weak (pe_lc (g := gT X.K t) (tt := tTTs X.K c cs) (te := tE X.K c el) o.calm (by rw [o.N]; exact o.nd) (sI it o tg iter h4) ok
          (fun s H C cl fp => sTg (o.blk s H scope (compEnvC scope cl C X.env) fp (hk C cl)) (fun x hx => hx) t tg (by show chkTg D.N (compEnvC scope cl C X.env).scope.names _ t tg = true; rw [hn]; exact h5))
          (fun s H C cl fp => sTs cs (o.blk s H scope (compEnvC scope cl C X.env) fp (hk C cl)) ifs (by show chkTs D (compEnvC scope cl C X.env).scope.names cs ifs = true; rw [hn]; exact h6))
          (fun s H C cl fp => sE el (o.blk s H scope (compEnvC scope cl C X.env) fp (hk C cl)) elt (by show chkE D (compEnvC scope cl C X.env).scope.names el elt = true; rw [hn]; exact h7)) (fold_no h2)) fun σ H Q q => ?_
        rw [ownN_snd]
        exact lc_read (K := X.K) (c := c) (ht := fun j hj => by
          have := List.all_eq_true.mp h3 j hj
          simpa using this) q
    | _ => simp [chkF] at h
  | .list m, X, o, e, h => by
    cases e with
    | Call fn xs kws pos =>
      match fn, xs, kws, h with
      | .Name x p, [y], [], h =>
        simp only [chkF, Bool.and_eq_true] at h
        obtain ⟨⟨⟨h1, h2⟩, h3⟩, h4⟩ := h
        obtain ⟨k1, k2⟩ := free_of o h2
        have ex := eqS_ok h1
        subst ex
        refine PE.weak (pe_callTy (call_listA o.calm) k1 k2 boot_list' (pa_cons (sO m o _ h4) pa_nil (star_cons h3)) (by decide) (by decide) (star_cons h3) rfl) fun σ H Q q => ?_
        obtain ⟨g, ρ, S, H0, p, S', a, e, k⟩ := q
        simp only [evF] at e
        obtain ⟨p1, S1, e1, e⟩ := ofBind e
        obtain ⟨e3, e4⟩ := ofOpt e
        subst e4
        refine ⟨g, ρ, S, H0, p1, _, a, e1, fun g1 v H1 t1 st1 r1 => ?_⟩
        have lk := r1.lk st1
        generalize dr _ p1 = d at e3 lk
        cases lk <;> simp only [listOf, reduceCtorEq, Option.some.injEq] at e3
        case tup s r =>
          subst e3
          exact .inl ⟨_, _, rfl, .inr s, fun l hl => newL k a t1 st1 r hl⟩
        case lst s r =>
          subst e3
          exact .inl ⟨_, _, rfl, .inl s.l, fun l hl => newL k a t1 st1 r hl⟩
        case str x =>
          split at e3
          case isFalse => cases e3
          case isTrue hl =>
            injection e3 with e3
            subst e3
            exact .inr ⟨x, rfl, hl, fun l hl => newL k a t1 st1 (rps_signs x) hl⟩
    | _ => simp [chkF] at h
  | .cat l r, X, o, e, h => by
    cases e <;> first | (simp [chkF] at h; done) | skip
    rename_i x op y pos
    cases op <;> first | (simp [chkF] at h; done) | skip
    simp only [chkF, Bool.and_eq_true] at h
    refine PE.weak (pe_op op_catL (sO l o _ h.1) (sO r o _ h.2)) fun σ H Q q => ?_
    obtain ⟨g, ρ, S, H0, p, S', a, e, k⟩ := q
    simp only [evF] at e
    obtain ⟨p1, S1, e1, e⟩ := ofBind e
    obtain ⟨p2, S2, e2, e⟩ := ofBind e
    refine op2 a e1 e2 fun g' x y H' t st rx ry => ?_
    have l1 := rx.lk st
    have l2 := ry.lk st
    split at e
    case h_1 xs ys hx hy =>
      obtain ⟨hl, e⟩ := ofChk e
      cases e
      rw [hx] at l1
      rw [hy] at l2
      cases l1 with
      | lst s1 r1 =>
        cases l2 with
        | lst s2 r2 => exact ⟨_, _, _, _, rfl, rfl, s1, s2, by rw [r1.length, r2.length, line_L]; exact Nat.le_of_ble_eq_true hl, fun p hp => newL k a t st (r1.append r2) hp⟩
    case h_2 => cases e
  | .slr m, X, o, e, h => by
    match e, h with
    | .Subscript x (.Slice none none (some (.UnaryOp .USub (.Constant (.int i) kk pc) pu)) ps) pos, h =>
      simp only [chkF, Bool.and_eq_true, decide_eq_true_eq] at h
      obtain ⟨hi, h⟩ := h
      subst hi
      exact s_slr o (sO m o _ h)
  | .srt m, X, o, e, h => by
    cases e with
    | Call fn xs kws pos =>
      match fn, xs, kws, h with
      | .Name x p, [y], [], h =>
        simp only [chkF, Bool.and_eq_true] at h
        obtain ⟨⟨⟨h1, h2⟩, h3⟩, h4⟩ := h
        obtain ⟨k1, k2⟩ := free_of o h2
        have ex := eqS_ok h1
        subst ex
        exact s_srt o k1 k2 h3 (sO m o _ h4)
    | _ => simp [chkF] at h
  | .split a b, X, o, e, h => by
    match e, h with
    | .Call (.Attribute oe mm apos) [x] [] cpos, h =>
      simp only [chkF, Bool.and_eq_true] at h
      obtain ⟨⟨⟨⟨⟨h1, h2⟩, h3⟩, h4⟩, h5⟩, h6⟩ := h
      have em := eqS_ok h1
      subst em
      refine PE.weak (pe_split (sO a o oe h5) (sO b o x h6) (star_cons h4) (base_no0 h3) h2) fun σ H Q q => ?_
      obtain ⟨g, ρ, S, H0, xs, S', at_, ev, k⟩ := q
      simp only [evF] at ev
      obtain ⟨p1, S1, e1, ev⟩ := ofBind ev
      obtain ⟨p2, S2, e2, ev⟩ := ofBind ev
      cases p1 <;> cases p2 <;> first | (simp at ev; done) | skip
      simp only at ev
      obtain ⟨hz, ev⟩ := ofChk ev
      cases ev
      rw [Bool.and_eq_true] at hz
      refine ⟨g, ρ, S, H0, _, S1, at_, e1, fun g1 v1 H1 t1 st1 r1 => ?_⟩
      have lk1 : Lk X.K g1 H1 v1 (.str _) := r1.lk st1
      cases lk1
      refine ⟨⟨_, rfl⟩, g1, ρ, S1, H0, _, _, at_.after t1 st1, e2, fun g2 v2 H2 t2 st2 r2 => ?_⟩
      have lk2 : Lk X.K g2 H2 v2 (.str _) := r2.lk st2
      cases lk2
      refine ⟨_, _, rfl, rfl, ?_, ?_, fun l hl => ?_⟩
      · rw [len_toS]
        have hne : ∀ y : Sg, (!y.isEmpty) = true → (y.length == 0) = false := fun y h => by cases y <;> simp at h ⊢
        exact hne _ hz.1
      · rw [len_toS, line_L]
        exact Nat.le_of_ble_eq_true hz.2
      · exact newL k at_ (t1.tr t2 at_.st st1) st2 (rps_strs _) hl
  | .lrng a b, X, o, e, h => by
    cases e with
    | Call fn xs kws pos =>
      match fn, xs, kws, h with
      | .Name x p, [.Call (.Name y py) [e1, e2] [] pos2], [], h =>
        simp only [chkF, Bool.and_eq_true] at h
        obtain ⟨⟨⟨⟨⟨⟨⟨h1, h2⟩, h3⟩, h4⟩, h5⟩, h6⟩, h7⟩, h8⟩ := h
        obtain ⟨k1, k2⟩ := free_of o h2
        obtain ⟨k3, k4⟩ := free_of o h4
        have ex := eqS_ok h1
        subst ex
        have ey := eqS_ok h3
        subst ey
        refine PE.weak (pe_listRg o.calm k1 k2 (prg_2 k3 k4 (sE a o _ h7) (sE b o _ h8) (star_cons h5) (star_cons h6) (by rw [star_cons h6]; rfl))) fun σ H Q q => ?_
        obtain ⟨g, ρ, S, H0, xs, S', at_, e, k⟩ := q
        simp only [evF] at e
        obtain ⟨p1, S1, e1, e⟩ := ofBind e
        obtain ⟨p2, S2, e2, e⟩ := ofBind e
        cases p1 <;> cases p2 <;> first | (simp at e; done) | skip
        rename_i i j
        simp only at e
        obtain ⟨hz, e⟩ := ofChk e
        cases e
        simp only [Bool.and_eq_true] at hz
        obtain ⟨⟨z1, z2⟩, z3⟩ := hz
        have z1 := Nat.le_of_ble_eq_true z1
        have z2 := Nat.le_of_ble_eq_true z2
        have z3 := Nat.le_of_ble_eq_true z3
        refine ⟨g, ρ, S, H0, _, S1, at_, e1, fun g1 v1 H1 t1 st1 r1 => ⟨g1, ρ, S1, H0, _, _, at_.after t1 st1, e2, fun g2 v2 H2 t2 st2 r2 => ?_⟩⟩
        have r1' := r1
        cases r1
        cases r2
        refine ⟨_, _, rfl, rfl, ⟨by omega, by omega, by omega, by omega, by unfold L at z3; omega⟩, fun l hl => ?_⟩
        exact newL k at_ (t1.tr t2 at_.st st1) st2 (rps_rgV _ _) hl
      | .Name x p, [], _, h => simp [chkF] at h
    | _ => simp [chkF] at h
  | .slc m lo hi, X, o, e, h => by
    cases e <;> first | (simp [chkF] at h; done) | skip
    rename_i x i pos
    cases i <;> first | (simp [chkF] at h; done) | skip
    rename_i l' h' s' p2
    cases s' <;> first | (simp [chkF] at h; done) | skip
    simp only [chkF, Bool.and_eq_true] at h
    obtain ⟨⟨h1, h2⟩, h3⟩ := h
    refine PE.weak (pe_slice sl_list (sO m o _ h1) (sB lo o _ h2) (sB hi o _ h3)) fun σ H Q q => ?_
    obtain ⟨g, ρ, S, H0, p, S', a, e, k⟩ := q
    simp only [evF] at e
    obtain ⟨p1, S1, e1, e⟩ := ofBind e
    obtain ⟨p2, S2, e2, e⟩ := ofBind e
    obtain ⟨p3, S3, e3, e⟩ := ofBind e
    refine ⟨g, ρ, S, H0, p1, S1, a, e1, fun g1 v1 H1 t1 st1 r1 => ⟨g1, ρ, S1, H0, p2, _, a.after t1 st1, e2, fun g2 H2 t2 st2 => ⟨g2, ρ, S2, H0, p3, _, (a.after t1 st1).after t2 st2, e3, fun g3 H3 t3 st3 => ?_⟩⟩⟩
    have lk := ((r1.stp t2).stp t3).lk st3
    split at e
    case h_1 xs hx =>
      cases e
      rw [hx] at lk
      cases lk with
      | lst s r => exact ⟨_, _, rfl, s.l, fun p hp => newL k a ((t1.tr t2 a.st st1).tr t3 a.st st2) st3 (r.cut _ _) hp⟩
    case h_2 => cases e
  | .rep f b, X, o, e, h => by
    cases e <;> first | (simp [chkF] at h; done) | skip
    rename_i x op y pos
    cases op <;> first | (simp [chkF] at h; done) | skip
    simp only [chkF, Bool.and_eq_true] at h
    refine PE.weak (pe_op op_rep (sF f o _ h.1) (sE b o _ h.2)) fun σ H Q q => ?_
    obtain ⟨g, ρ, S, H0, p, S', a, e, k⟩ := q
    simp only [evF] at e
    obtain ⟨p1, S1, e1, e⟩ := ofBind e
    obtain ⟨p2, S2, e2, e⟩ := ofBind e
    split at e
    case h_1 j =>
      obtain ⟨hz, e⟩ := ofChk e
      cases e
      rw [Bool.and_eq_true] at hz
      have z1 : j.natAbs < 2 ^ 62 := Nat.le_of_ble_eq_true hz.1
      refine ⟨g, ρ, S, H0, p1, S1, a, e1, fun g1 l vs H1 t1 st1 hl r1 n1 n2 n3 => ⟨g1, ρ, S1, H0, _, _, a.after t1 st1, e2, fun g2 v2 H2 t2 st2 r2 => ?_⟩⟩
      cases r2
      refine ⟨l, j, vs, rfl, rfl, t2.f _ _ hl n2, by omega, by omega, by rw [r1.length, line_L]; exact Nat.le_of_ble_eq_true hz.2, fun p hp => ?_⟩
      exact newL k a (t1.tr t2 a.st st1) st2 ((r1.stp t2).rep _) hp
    case h_2 => cases e
  | .lc2 own own1 t it cs t1 it1 cs1 el, X, o, e, h => by
    cases e with
    | ListComp elt gens scope pos =>
      match gens, h with
      | [⟨tg, iter, ifs, isA⟩, ⟨tg1, iter1, ifs1, isB⟩], h =>
        simp only [chkF, Bool.and_eq_true, decide_eq_true_eq] at h
        obtain ⟨⟨⟨⟨⟨⟨⟨⟨⟨⟨⟨⟨⟨⟨h0, h0'⟩, h1⟩, h2⟩, h2'⟩, h3⟩, h3'⟩, h3''⟩, h4⟩, h5⟩, h6⟩, h7⟩, h8⟩, h9⟩, h10⟩ := h
        subst h0 h0'
        have b := blkOk_by h1
        have ok : BlkOk X.N X.env.scope scope (ownN D.N own) := ⟨b.kind, b.uniq, by rw [o.N]; exact b.ix, b.free, by rw [o.N]; exact b.own⟩
        have hk : ∀ (C : Addr) (cl : List (Str × Addr)), (compEnvC scope cl C X.env).scope.kind = .function := fun _ _ => b.kind
        have hn : ∀ (C : Addr) (cl : List (Str × Addr)), (compEnvC scope cl C X.env).scope.names = relN scope.names X.env.scope.names := fun C cl => rel_names o.kd
        refine PE.weak (pe_lc2 (g := gT X.K t) (tt := tTTs X.K c cs) (wi1 := iSeq X.K (tE X.K c it1)) (g1 := gT X.K t1) (tt1 := tTTs X.K c cs1) (te := tE X.K c el) (vs1 := own1) o.calm (by rw [o.N]; exact o.nd) (sI it o tg iter h4) ok
          (fun i hi => by rw [ownN_snd]; have := List.all_eq_true.mp h3'' i hi; simpa using this)
          (fun s H C cl fp => sTg (o.blk s H scope (compEnvC scope cl C X.env) fp (hk C cl)) (fun x hx => hx) t tg (by show chkTg D.N (compEnvC scope cl C X.env).scope.names _ t tg = true; rw [hn]; exact h5))
          (fun s H C cl fp => sTs cs (o.blk s H scope (compEnvC scope cl C X.env) fp (hk C cl)) ifs (by show chkTs D (compEnvC scope cl C X.env).scope.names cs ifs = true; rw [hn]; exact h6))
          (fun s H C cl fp => pi_seq (sE it1 (o.blk s H scope (compEnvC scope cl C X.env) fp (hk C cl)) iter1 (by show chkE D (compEnvC scope cl C X.env).scope.names it1 iter1 = true; rw [hn]; exact h7)))
          (fun s H C cl fp => sTg (o.blk s H scope (compEnvC scope cl C X.env) fp (hk C cl)) (fun x hx => hx) t1 tg1 (by show chkTg D.N (compEnvC scope cl C X.env).scope.names _ t1 tg1 = true; rw [hn]; exact h8))
          (fun s H C cl fp => sTs cs1 (o.blk s H scope (compEnvC scope cl C X.env) fp (hk C cl)) ifs1 (by show chkTs D (compEnvC scope cl C X.env).scope.names cs1 ifs1 = true; rw [hn]; exact h9))
          (fun s H C cl fp => sE el (o.blk s H scope (compEnvC scope cl C X.env) fp (hk C cl)) elt (by show chkE D (compEnvC scope cl C X.env).scope.names el elt = true; rw [hn]; exact h10)) (fold_no h2) (fun _ => fold_no h2')) fun σ H Q q => ?_
        rw [ownN_snd]
        exact lc2_read (K := X.K) (c := c) (fun j hj => by
          have := List.all_eq_true.mp h3 j hj
          simpa using this) (fun j hj => by
          have := List.all_eq_true.mp h3' j hj
          simpa using this) q
    | _ => simp [chkF] at h
theorem sI : ∀ (m : I) {X : Cx}, OkX D c n X → ∀ (tg e : Expr), chkI D X.env.scope.names m tg e = true → PI X tg e (tI X.K c m)
  | .sq (.own i), X, o, tg, e, h => by
    have h' : chkO D X.env.scope.names (.own i) e = true := by cases e <;> simpa only [chkI] using h
    refine PI.weak (pi_seq (sO _ o e h')) fun σ H R q => ?_
    obtain ⟨g, ρ, S, H0, xs, S', a, e, k⟩ := q
    simp only [evI] at e
    obtain ⟨p1, S1, e1, e⟩ := ofBind e
    obtain ⟨e3, e4⟩ := ofOpt e
    subst e4
    rw [itemsX_own] at e3
    refine ⟨g, ρ, S, H0, p1, _, a, e1, fun g1 v H1 t1 st1 r1 => ?_⟩
    cases p1 <;> simp only [itemsOf, reduceCtorEq, Option.some.injEq] at e3
    case str x =>
      subst e3
      rcases r1 with r1 | ⟨_, m, _, z, _⟩
      · cases r1
        exact .inr (.inr ⟨_, rfl, k g1 _ H1 t1 st1 enm_str⟩)
      · cases m <;> cases z
    case tup ys =>
      subst e3
      obtain ⟨ad, vs, rfl, r, l⟩ := later_tup r1 st1
      exact .inr (.inl ⟨ad, rfl, ⟨vs, l g1 H1 _ (.refl _ _) st1⟩, k g1 _ H1 t1 st1 (enm_tup r l)⟩)
    case lst ys =>
      subst e3
      obtain ⟨ad, vs, rfl, r, l⟩ := later_lst r1 st1
      exact .inl ⟨ad, rfl, ⟨vs, (l g1 H1 _ (.refl _ _) st1).l⟩, k g1 _ H1 t1 st1 (enm_list r l)⟩
  | .sq (.e m), X, o, tg, e, h => by
    have h' : chkE D X.env.scope.names m e = true := by cases e <;> simpa only [chkI, chkO] using h
    refine PI.weak (pi_seqD (sE m o e h')) fun σ H R q => ?_
    obtain ⟨g, ρ, S, H0, xs, S', a, e, k⟩ := q
    simp only [evI, evO] at e
    obtain ⟨p1, S1, e1, e⟩ := ofBind e
    obtain ⟨e3, e4⟩ := ofOpt e
    subst e4
    refine ⟨g, ρ, S, H0, p1, _, a, e1, fun g1 v H1 t1 st1 r1 => ?_⟩
    cases p1 <;> simp only [itemsX, itemsOf, reduceCtorEq, Option.some.injEq] at e3
    case str x =>
      subst e3
      cases r1
      exact .inl (.inr (.inr ⟨_, rfl, k g1 _ H1 t1 st1 enm_str⟩))
    case tup ys =>
      subst e3
      obtain ⟨ad, vs, rfl, r, l⟩ := later_tup (.inl r1) st1
      exact .inl (.inr (.inl ⟨ad, rfl, ⟨vs, l g1 H1 _ (.refl _ _) st1⟩, k g1 _ H1 t1 st1 (enm_tup r l)⟩))
    case lst ys =>
      subst e3
      obtain ⟨ad, vs, rfl, r, l⟩ := later_lst (.inl r1) st1
      exact .inl (.inl ⟨ad, rfl, ⟨vs, (l g1 H1 _ (.refl _ _) st1).l⟩, k g1 _ H1 t1 st1 (enm_list r l)⟩)
    case dct ks ys =>
      subst e3
      cases r1 with
      | dct s1 s2 s3 => exact .inr ⟨_, _, _, rfl, st1.sub _ _ s1, k g1 _ H1 t1 st1 (enm_dct s1 s2)⟩
  | .rng m, X, o, tg, e, h => by
    cases e with
    | Call fn xs kws pos =>
      match fn, xs, kws, h with
      | .Name x p, [y], [], h =>
        simp only [chkI, Bool.and_eq_true] at h
        obtain ⟨⟨⟨h1, h2⟩, h3⟩, h4⟩ := h
        obtain ⟨k1, k2⟩ := free_of o h2
        have ex := eqS_ok h1
        subst ex
        refine PI.weak (pi_range1 k1 k2 (pa_cons (sE m o _ h4) pa_nil (star_cons h3)) (star_cons h3)) fun σ H R q => ?_
        obtain ⟨g, ρ, S, H0, xs, S', a, e, k⟩ := q
        simp only [evI] at e
        obtain ⟨p1, S1, e1, e⟩ := ofBind e
        refine ⟨g, ρ, S, H0, p1, _, a, e1, fun g1 v H1 t1 st1 r1 => ?_⟩
        split at e
        case h_1 j =>
          obtain ⟨hl, e⟩ := ofChk e
          cases e
          cases r1
          have hl' : j.natAbs < 2 ^ 62 := Nat.le_of_ble_eq_true hl
          exact ⟨j, rfl, by omega, by omega, k g1 _ H1 t1 st1 enm_rng⟩
        case h_2 => cases e
    | _ => simp [chkI] at h
  | .rng2 m m2, X, o, tg, e, h => by
    cases e with
    | Call fn xs kws pos =>
      match fn, xs, kws, h with
      | .Name x p, [y, y2], [], h =>
        simp only [chkI, Bool.and_eq_true] at h
        obtain ⟨⟨⟨⟨⟨h1, h2⟩, h3⟩, h4⟩, h5⟩, h6⟩ := h
        obtain ⟨k1, k2⟩ := free_of o h2
        have ex := eqS_ok h1
        subst ex
        refine PI.weak (pi_range2 k1 k2 (pa_cons (sE m o _ h5) (pa_cons (sE m2 o _ h6) pa_nil (star_cons h4)) (star_cons h3)) (by rw [star_cons h3, star_cons h4]; rfl) (star_cons h4)) fun σ H R q => ?_
        obtain ⟨g, ρ, S, H0, xs, S', a, e, k⟩ := q
        simp only [evI] at e
        obtain ⟨p1, S1, e1, e⟩ := ofBind e
        obtain ⟨p2, S2, e2, e⟩ := ofBind e
        refine ⟨g, ρ, S, H0, p1, _, a, e1, fun g1 v H1 t1 st1 r1 => ⟨g1, ρ, S1, H0, p2, _, a.after t1 st1, e2, fun g2 v2 H2 t2 st2 r2 => ?_⟩⟩
        cases r1 <;> cases r2 <;> first | (simp at e; done) | skip
        case int.int i _ j =>
          obtain ⟨hl, e⟩ := ofChk e
          cases e
          rw [Bool.and_eq_true] at hl
          have hl1 : i.natAbs < 2 ^ 62 := Nat.le_of_ble_eq_true hl.1
          have hl2 : j.natAbs < 2 ^ 62 := Nat.le_of_ble_eq_true hl.2
          exact ⟨i, j, rfl, ⟨by omega, by omega, by omega, by omega⟩, k g2 _ H2 (t1.tr t2 a.st st1) st2 enm_rng⟩
    | _ => simp [chkI] at h
  | .enum m, X, o, tg, e, h => by
    cases e with
    | Call fn xs kws pos =>
      match fn, xs, kws, h with
      | .Name x p, [y], [], h =>
        simp only [chkI, Bool.and_eq_true] at h
        obtain ⟨⟨⟨⟨h0, h1⟩, h2⟩, h3⟩, h4⟩ := h
        obtain ⟨elts, kk, tpos, rfl⟩ := tupP_ok h0
        obtain ⟨k1, k2⟩ := free_of o h2
        have ex := eqS_ok h1
        subst ex
        exact s_enum o k1 k2 h3 (sO m o _ h4)
    | _ => simp [chkI] at h
  | .zip _ _, _, _, _, _, h => by simp [chkI] at h
end
end
end Mn
end

section
set_option Elab.async false
set_option linter.all false
set_option autoImplicit false
set_option maxHeartbeats 8000000
/-! MnStm: statements, defs. -/
namespace Mn
open PySem PySem.Spec PyProof.Rows L2

/-! ### the look at statements -/
def noComp : Expr → Bool
  | .ListComp _ _ _ _ => false
  | .SetComp _ _ _ _ => false
  | .DictComp _ _ _ _ _ => false
  | _ => true
def isLC : Expr → Bool
  | .ListComp _ _ _ _ => true
  | .DictComp _ _ _ _ _ => true
  | _ => false
def isTup : Expr → Bool
  | .Tuple _ _ _ => true
  | _ => false
def isName : Expr → Bool
  | .Name _ _ => true
  | _ => false
def locC (sc : List (Str × NameKind)) (x : Str) : Bool := match sc.lookup x with
  | some .local => true | _ => false
/-- a, b = .. by the swap of two stores -/
def swapC (sc : List (Str × NameKind)) (x y : Str) (px py : Pos) (a b : Expr) : Bool :=
  locC sc x && locC sc y && (px.line == px.line) && (py.line == px.line) && !(eqS x y) && noStar a && noStar b && !(foldedForSure 8 a && foldedForSure 8 b) && !(constantsAlone 8 a && constantsAlone 8 b)
def swap3C (sc : List (Str × NameKind)) (x y z : Str) (px py pz : Pos) (a b c : Expr) : Bool :=
  locC sc x && locC sc y && locC sc z && (py.line == px.line) && (pz.line == px.line) && !(eqS x y) && !(eqS x z) && !(eqS y z) && noStar a && noStar b && noStar c && !(foldedForSure 8 a && (foldedForSure 8 b && foldedForSure 8 c)) && !(constantsAlone 8 a && (constantsAlone 8 b && constantsAlone 8 c))
/-- .. by a tuple -/
def tupC (sc : List (Str × NameKind)) (x y : Str) (a b : Expr) : Bool := !(locC sc x) || !(locC sc y) || (foldedForSure 8 a && foldedForSure 8 b)
def tgC (N : List Str) (sc : List (Str × NameKind)) (i : Nat) (x : Str) : Bool := atN N i x && (match sc.lookup x with | some .local => true | some .cell => true | _ => false)
def isD0 : Expr → Bool
  | .Dict [] [] _ => true
  | _ => false
def chkEF (D : Dat) (sc : List (Str × NameKind)) : EF → Expr → Bool
  | .e e, x => chkE D sc e x
  | .f f, x => chkF D sc f x
  | .d, x => isD0 x
mutual
def chkS (D : Dat) (sc : List (Str × NameKind)) : S → Stmt → Bool
  | .set t e, .Assign [tg] x _ => chkTg D.N sc (fun _ => true) t tg && noStar tg && (noComp x || (isLC x && isName tg) || isTup tg) && !(isTup tg && isTup x) && chkE D sc e x
  | .setO i f, .Assign [.Name y _] x _ => tgC D.N sc i y && (noComp x || isLC x) && chkF D sc f x
  | .par i a j b, .Assign [.Tuple [.Name x px, .Name y py] _ _] (.Tuple [ea, eb] _ _) _ => tgC D.N sc i x && tgC D.N sc j y && !(Nat.beq i j) && noStar ea && noStar eb && chkEF D sc a ea && chkEF D sc b eb && (swapC sc x y px py ea eb || tupC sc x y ea eb)
  | .setx o k v, .Assign [.Subscript oe ke _] ve _ => noComp ve && plainX ke && chkE D sc o oe && chkE D sc k ke && chkE D sc v ve
  | .setxo i k v, .Assign [.Subscript (.Name x _) ke _] ve _ => noComp ve && plainX ke && atN D.N i x && visC sc x && okN x && chkE D sc k ke && chkE D sc v ve
  | .newD i, .Assign [.Name y _] (.Dict [] [] _) _ => tgC D.N sc i y
  | .putD i k v, .Assign [.Subscript (.Name x _) ke _] ve _ => noComp ve && plainX ke && atN D.N i x && visC sc x && okN x && chkE D sc k ke && chkE D sc v ve
  | .par3 i a j b l d, .Assign [.Tuple [.Name x px, .Name y py, .Name z pz] _ _] (.Tuple [ea, eb, ec] _ _) _ => tgC D.N sc i x && tgC D.N sc j y && tgC D.N sc l z && !(Nat.beq i j) && !(Nat.beq i l) && !(Nat.beq j l) && noStar ea && noStar eb && noStar ec && chkE D sc a ea && chkE D sc b eb && chkE D sc d ec && swap3C sc x y z px py pz ea eb ec
  | .ex e, .Expr x _ => noComp x && chkE D sc e x
  | .app i e, .Expr (.Call (.Attribute (.Name x _) m apos) [ea] [] cpos) _ => atN D.N i x && visC sc x && okN x && eqS m "append" && (apos.endLine == cpos.line) && noStar ea && chkE D sc e ea
  | .appr o e, .Expr (.Call (.Attribute oe m apos) [ea] [] cpos) _ => noCall0 oe && eqS m "append" && (apos.endLine == cpos.line) && noStar ea && chkE D sc o oe && chkE D sc e ea
  | .ite t a b, .If c x y _ => chkT D sc t c && chkSs D sc a x && chkSs D sc b y
  | .whl t b, .While c x [] _ => chkT D sc t c && chkSs D sc b x
  | .for t it b, .For tg iter x [] _ => noSet iter && chkI D sc it tg iter && chkTg D.N sc (fun _ => true) t tg && chkSs D sc b x
  | .ret e, .Return (some x) _ => chkE D sc e x
  | .retO i, .Return (some (.Name x _)) _ => atN D.N i x && visC sc x && okN x
  | .retN, .Return none _ => true
  | .brk, .Break _ => true
  | .cont, .Continue _ => true
  | .pass, .Pass _ => true
  | .raise, _ => true
  | _, _ => false
def chkSs (D : Dat) (sc : List (Str × NameKind)) : List S → List Stmt → Bool
  | [], [] => true
  | .frz _ :: ms, sts => chkSs D sc ms sts
  | m :: ms, st :: sts => chkS D sc m st && chkSs D sc ms sts
  | _, _ => false
end

/-! ### the readings -/
/-- a later ghost -/
structure Gle (g g' : Gh) : Prop where
  gs : ∀ a o, g.G a = some o → g'.G a = some o
  b : ∀ (n : Nat) (a : Addr), g.B[n]? = some a → g'.B[n]? = some a
theorem Gle.refl (g : Gh) : Gle g g := ⟨fun _ _ h => h, fun _ _ h => h⟩
theorem Gle.trans {g g1 g2 : Gh} (a : Gle g g1) (b : Gle g1 g2) : Gle g g2 := ⟨fun x o h => b.gs x o (a.gs x o h), fun n x h => b.b n x (a.b n x h)⟩
theorem Stp.gle {g g' : Gh} {H H' : Hp} (t : Stp g H g' H') : Gle g g' := ⟨t.gs, fun _ _ h => t.bget h⟩
/-- the state at a statement: since the entry g0, H0, S0 -/
structure Hold (K : Frag) (g0 : Gh) (H0 : Hp) (S0 : Sto) (σ : L2.St) (H : Hp) (g : Gh) (ρ : Env) (S : Sto) : Prop where
  e0 : StR K g0 H0 S0
  t : Stp g0 H0 g H
  env : EnvR K g H H0 σ ρ
  st : StR K g H S
theorem Hold.at {K : Frag} {g0 : Gh} {H0 : Hp} {S0 : Sto} {σ : L2.St} {H : Hp} {g : Gh} {ρ : Env} {S : Sto} (h : Hold K g0 H0 S0 σ H g ρ S) : At K H σ g ρ S H0 := ⟨h.env, h.st⟩
theorem Hold.step {K : Frag} {g0 : Gh} {H0 : Hp} {S0 : Sto} {σ : L2.St} {H : Hp} {g : Gh} {ρ : Env} {S : Sto} (h : Hold K g0 H0 S0 σ H g ρ S) {g' : Gh} {H' : Hp} {S' : Sto} (t : Stp g H g' H') (st : StR K g' H' S') : Hold K g0 H0 S0 σ H' g' ρ S' :=
  ⟨h.e0, h.t.tr t h.e0 h.st, h.env.stp t, st⟩
/-- how a statement's end is wanted -/
def FlOk (K : Frag) (g0 : Gh) (H0 : Hp) (S0 : Sto) (g : Gh) (D : Ends) (f : Fl) (S' : Sto) : Prop := match f with
  | .nx ρ' => ∀ g' σ' H', Gle g g' → Hold K g0 H0 S0 σ' H' g' ρ' S' → D.nx σ' H'
  | .bk ρ' => ∀ g' σ' H', Gle g g' → Hold K g0 H0 S0 σ' H' g' ρ' S' → D.bk σ' H'
  | .ct ρ' => ∀ g' σ' H', Gle g g' → Hold K g0 H0 S0 σ' H' g' ρ' S' → D.ct σ' H'
  | .rt p => ∀ g' v H', Stp g0 H0 g' H' → StR K g' H' S' → Rp K g' v p → D.rt v H'
  | .ro xs => ∀ g' a vs H', Stp g0 H0 g' H' → StR K g' H' S' → H' a = some (.lst vs) → Rps K g' vs xs → g'.G a = none → a ∉ g'.B → H0 a = none → D.rt (.ref a) H'
def tS (K : Frag) (c : Ct) (m : S) : TS := fun D σ H => ∃ g0 H0 S0 g ρ S f S', Hold K g0 H0 S0 σ H g ρ S ∧ evS c m ρ S = .ok f S' ∧ FlOk K g0 H0 S0 g D f S'
def tSs (K : Frag) (c : Ct) (m : List S) : TS := fun D σ H => ∃ g0 H0 S0 g ρ S f S', Hold K g0 H0 S0 σ H g ρ S ∧ evSs c m ρ S = .ok f S' ∧ FlOk K g0 H0 S0 g D f S'
theorem FlOk.later {K : Frag} {g0 : Gh} {H0 : Hp} {S0 : Sto} {g g1 : Gh} {D : Ends} {f : Fl} {S' : Sto} (h : FlOk K g0 H0 S0 g D f S') (l : Gle g g1) : FlOk K g0 H0 S0 g1 D f S' := by
  cases f with
  | nx ρ => exact fun g' σ' H' k => h g' σ' H' (l.trans k)
  | bk ρ => exact fun g' σ' H' k => h g' σ' H' (l.trans k)
  | ct ρ => exact fun g' σ' H' k => h g' σ' H' (l.trans k)
  | rt p => exact h
  | ro xs => exact h

/-! ### slots set -/
/-- a value that a slot takes -/
def SlotR (K : Frag) (g : Gh) (H H0 : Hp) (v : V) : Slot → Prop
  | .no => False
  | .val p => Rp K g v p
  | .hold m => ∃ a, v = .ref a ∧ ObR K g H a m ∧ H a ≠ none ∧ g.G a = none ∧ a ∉ g.B ∧ H0 a = none
theorem SlotR.own {K : Frag} {g : Gh} {H H0 : Hp} {a : Addr} {vs : List V} {xs : List PV} (h : H a = some (.lst vs)) (r : Rps K g vs xs) (h1 : g.G a = none) (h2 : a ∉ g.B) (h3 : H0 a = none) : SlotR K g H H0 (.ref a) (.own xs) := ⟨a, rfl, .lst h r, by rw [h]; simp, h1, h2, h3⟩
theorem get_set {α : Type} {l : List α} {i j : Nat} {x y : α} (h : (l.set i x)[j]? = some y) : (i = j ∧ y = x ∧ i < l.length) ∨ (i ≠ j ∧ l[j]? = some y) := by
  by_cases e : i = j
  · subst e
    by_cases hl : i < l.length
    · rw [List.getElem?_set_self hl] at h; cases h; exact .inl ⟨rfl, rfl, hl⟩
    · rw [List.getElem?_eq_none (by simpa using hl)] at h; cases h
  · rw [List.getElem?_set_ne e] at h; exact .inr ⟨e, h⟩
theorem EnvR.setSlot {K : Frag} {g : Gh} {H H0 : Hp} {σ : L2.St} {ρ : Env} (e : EnvR K g H H0 σ ρ) {i : Nat} {v : V} {s : Slot} (r : SlotR K g H H0 v s)
    (ap : ∀ xs a, s = .hold xs → v = .ref a → ∀ (j : Nat) ys, i ≠ j → ρ[j]? = some (.hold ys) → σ[j]? ≠ some (some (.ref a))) : EnvR K g H H0 (σ.set i (some v)) (ρ.set i s) where
  len := by rw [List.length_set, List.length_set]; exact e.len
  val := fun j q h => by
    rcases get_set h with ⟨rfl, rfl, hl⟩ | ⟨ne, h⟩
    · exact ⟨v, by rw [List.getElem?_set_self (by rw [e.len]; exact hl)], r⟩
    · rw [List.getElem?_set_ne ne]; exact e.val j q h
  own := fun j xs h => by
    rcases get_set h with ⟨rfl, rfl, hl⟩ | ⟨ne, h⟩
    · obtain ⟨a, h1, h2⟩ := r
      exact ⟨a, by rw [List.getElem?_set_self (by rw [e.len]; exact hl), h1], h2⟩
    · rw [List.getElem?_set_ne ne]; exact e.own j xs h
  apart := fun j k xs ys a hjk h1 h2 h3 => by
    rcases get_set h1 with ⟨e1, e2, hl⟩ | ⟨n1, q1⟩
    · subst e1
      rw [List.getElem?_set_self (by rw [e.len]; exact hl)] at h3
      have hv : v = .ref a := by simpa using h3
      rcases get_set h2 with ⟨e3, _, _⟩ | ⟨n2, q2⟩
      · exact absurd e3 hjk
      · rw [List.getElem?_set_ne n2]
        exact ap xs a e2.symm hv k ys n2 q2
    · rw [List.getElem?_set_ne n1] at h3
      rcases get_set h2 with ⟨e1, e2, hl⟩ | ⟨n2, q2⟩
      · subst e1
        rw [List.getElem?_set_self (by rw [e.len]; exact hl)]
        intro z
        have hv : v = .ref a := by simpa using z
        exact ap ys a e2.symm hv j xs n1 q1 h3
      · rw [List.getElem?_set_ne n2]
        exact e.apart j k xs ys a hjk q1 q2 h3
/-- a place that was free is no slot's list -/
theorem EnvR.fresh {K : Frag} {g : Gh} {H H0 : Hp} {σ : L2.St} {ρ : Env} (e : EnvR K g H H0 σ ρ) {a : Addr} (h : H a = none) (j : Nat) (ys : MO) (hj : ρ[j]? = some (.hold ys)) : σ[j]? ≠ some (some (.ref a)) := by
  intro z
  obtain ⟨b, h1, _, h2, _⟩ := e.own j ys hj
  rw [z] at h1
  cases h1
  exact h2 h
/-- the thing of a slot is written -/
theorem EnvR.writeO {K : Frag} {g : Gh} {H H0 : Hp} {σ : L2.St} {ρ : Env} (e : EnvR K g H H0 σ ρ) {i : Nat} {a : Addr} {o : HO} {xs ys : MO} (h1 : ρ[i]? = some (.hold xs)) (h2 : σ[i]? = some (some (.ref a))) (r : ObR K g (upd H a o) a ys) (gn : g.G a = none) (bn : a ∉ g.B) (h0 : H0 a = none) :
    EnvR K g (upd H a o) H0 σ (ρ.set i (.hold ys)) where
  len := by rw [List.length_set]; exact e.len
  val := fun j q h => by
    rcases get_set h with ⟨rfl, z, hl⟩ | ⟨ne, h⟩
    · cases z
    · exact e.val j q h
  own := fun j zs h => by
    rcases get_set h with ⟨rfl, z, hl⟩ | ⟨ne, h⟩
    · cases z
      exact ⟨a, h2, r, by rw [upd_same]; simp, gn, bn, h0⟩
    · obtain ⟨b, k1, k2, k2', k3⟩ := e.own j zs h
      have : b ≠ a := fun z => by
        subst z
        exact e.apart i j xs zs b ne h1 h h2 k1
      exact ⟨b, k1, k2.at fun o e => by rw [upd_ne this]; exact e, by rw [upd_ne this]; exact k2', k3⟩
  apart := fun j k zs ws b hjk k1 k2 k3 => by
    have p1 : ∃ zs', ρ[j]? = some (.hold zs') := by
      rcases get_set k1 with ⟨rfl, _, _⟩ | ⟨_, h⟩
      · exact ⟨xs, h1⟩
      · exact ⟨zs, h⟩
    have p2 : ∃ ws', ρ[k]? = some (.hold ws') := by
      rcases get_set k2 with ⟨rfl, _, _⟩ | ⟨_, h⟩
      · exact ⟨xs, h1⟩
      · exact ⟨ws, h⟩
    obtain ⟨zs', p1⟩ := p1
    obtain ⟨ws', p2⟩ := p2
    exact e.apart j k zs' ws' b hjk p1 p2 k3
theorem EnvR.write {K : Frag} {g : Gh} {H H0 : Hp} {σ : L2.St} {ρ : Env} (e : EnvR K g H H0 σ ρ) {i : Nat} {a : Addr} {vs : List V} {xs ys : List PV} (h1 : ρ[i]? = some (.own xs)) (h2 : σ[i]? = some (some (.ref a))) (r : Rps K g vs ys) (gn : g.G a = none) (bn : a ∉ g.B) (h0 : H0 a = none) :
    EnvR K g (upd H a (.lst vs)) H0 σ (ρ.set i (.own ys)) := e.writeO h1 h2 (.lst upd_same r) gn bn h0
/-- another thing than the slots' lists is written -/
theorem EnvR.other {K : Frag} {g : Gh} {H H0 : Hp} {σ : L2.St} {ρ : Env} (e : EnvR K g H H0 σ ρ) {a : Addr} {o : HO} (ha : a ∈ g.B) : EnvR K g (upd H a o) H0 σ ρ where
  len := e.len
  val := e.val
  own := fun j zs h => by
    obtain ⟨b, k1, k2, k3, k4, k5, k6⟩ := e.own j zs h
    exact ⟨b, k1, k2.at fun o e => by rw [upd_ne (ne_mem ha k5).symm]; exact e, by rw [upd_ne (ne_mem ha k5).symm]; exact k3, k4, k5, k6⟩
  apart := e.apart
/-- a list of a slot stays from now on -/
theorem Hold.frz {K : Frag} {g0 : Gh} {H0 : Hp} {S0 : Sto} {σ : L2.St} {H : Hp} {g : Gh} {ρ : Env} {S : Sto} (h : Hold K g0 H0 S0 σ H g ρ S) {i : Nat} {xs : List PV} (hi : ρ[i]? = some (.own xs)) :
    ∃ g', Gle g g' ∧ Hold K g0 H0 S0 σ H g' (ρ.set i (.val (.lst xs))) S := by
  obtain ⟨a, vs, k1, ho, r, k4, k5, k6⟩ := h.env.ownL i xs hi
  have up : ∀ b u, g.G b = some u → upd g.G a (.lst vs) b = some u := fun b u e => by rw [upd_ne (fun z => by rw [z, k4] at e; cases e)]; exact e
  have gl : Gle g ⟨upd g.G a (.lst vs), g.B⟩ := ⟨up, fun _ _ h => h⟩
  have rp : Rp K ⟨upd g.G a (.lst vs), g.B⟩ (.ref a) (.lst xs) := .lst (.inl (.inl upd_same)) (r.mono (g' := ⟨upd g.G a _, g.B⟩) up fun _ _ h => h)
  refine ⟨⟨upd g.G a (.lst vs), g.B⟩, gl, h.e0, h.t.keepL _ k6 k4, ⟨by rw [List.length_set]; exact h.env.len, fun j q hq => ?_, fun j zs hz => ?_, fun j k zs ws b hjk p1 p2 p3 => ?_⟩, h.st.keepL ho k4 k5⟩
  · rcases get_set hq with ⟨rfl, z, hl⟩ | ⟨ne, hq⟩
    · cases z
      exact ⟨_, k1, rp⟩
    · obtain ⟨v, e1, e2⟩ := h.env.val j q hq
      exact ⟨v, e1, e2.mono (g' := ⟨upd g.G a _, g.B⟩) up fun _ _ h => h⟩
  · rcases get_set hz with ⟨rfl, z, hl⟩ | ⟨ne, hz⟩
    · cases z
    · obtain ⟨b, e1, e2, e3, e4, e5, e6⟩ := h.env.own j zs hz
      have hb : b ≠ a := fun z => by
        subst z
        exact h.env.apart i j _ zs b ne hi hz k1 e1
      exact ⟨b, e1, e2.keep (g' := ⟨upd g.G a _, g.B⟩) (fun _ e => e) up fun _ _ h => h, e3, by show upd g.G a _ b = none; rw [upd_ne hb]; exact e4, e5, e6⟩
  · rcases get_set p1 with ⟨_, z, _⟩ | ⟨_, p1⟩
    · cases z
    · rcases get_set p2 with ⟨_, z, _⟩ | ⟨_, p2⟩
      · cases z
      · exact h.env.apart j k zs ws b hjk p1 p2 p3
/-- a dict of a slot is locked -/
theorem Hold.frzD {K : Frag} {g0 : Gh} {H0 : Hp} {S0 : Sto} {σ : L2.St} {H : Hp} {g : Gh} {ρ : Env} {S : Sto} (h : Hold K g0 H0 S0 σ H g ρ S) {i : Nat} {ks : List Ky} {xs : List PV} (hi : ρ[i]? = some (.dwn ks xs)) :
    ∃ a kvs, H a = some (.dK kvs) ∧ ∀ od, ∃ g', Gle g g' ∧ Hold K g0 H0 S0 σ (upd H a (.frz od (.dK kvs))) g' (ρ.set i (.val (.dct ks xs))) S := by
  obtain ⟨a, kvs, k1, ho, hk, r, k4, k5, k6⟩ := h.env.ownD i ks xs hi
  refine ⟨a, kvs, ho, fun od => ?_⟩
  have up : ∀ b u, g.G b = some u → upd g.G a (.frz od (.dK kvs)) b = some u := fun b u e => by rw [upd_ne (fun z => by rw [z, k4] at e; cases e)]; exact e
  have gl : Gle g ⟨upd g.G a (.frz od (.dK kvs)), g.B⟩ := ⟨up, fun _ _ h => h⟩
  have rp : Rp K ⟨upd g.G a (.frz od (.dK kvs)), g.B⟩ (.ref a) (.dct ks xs) := .dct upd_same hk (r.mono (g' := ⟨upd g.G a _, g.B⟩) up fun _ _ h => h)
  refine ⟨⟨upd g.G a (.frz od (.dK kvs)), g.B⟩, gl, h.e0, h.t.lockL _ k6 k4, ⟨by rw [List.length_set]; exact h.env.len, fun j q hq => ?_, fun j zs hz => ?_, fun j k zs ws b hjk p1 p2 p3 => ?_⟩, h.st.lockL ho k4 k5⟩
  · rcases get_set hq with ⟨rfl, z, hl⟩ | ⟨ne, hq⟩
    · cases z
      exact ⟨_, k1, rp⟩
    · obtain ⟨v, e1, e2⟩ := h.env.val j q hq
      exact ⟨v, e1, e2.mono (g' := ⟨upd g.G a _, g.B⟩) up fun _ _ h => h⟩
  · rcases get_set hz with ⟨rfl, z, hl⟩ | ⟨ne, hz⟩
    · cases z
    · obtain ⟨b, e1, e2, e3, e4, e5, e6⟩ := h.env.own j zs hz
      have hb : b ≠ a := fun z => by
        subst z
        exact h.env.apart i j _ zs b ne hi hz k1 e1
      exact ⟨b, e1, e2.keep (g' := ⟨upd g.G a _, g.B⟩) (fun _ e => by rw [upd_ne hb]; exact e) up fun _ _ h => h, by rw [upd_ne hb]; exact e3, by show upd g.G a _ b = none; rw [upd_ne hb]; exact e4, e5, e6⟩
  · rcases get_set p1 with ⟨_, z, _⟩ | ⟨_, p1⟩
    · cases z
    · rcases get_set p2 with ⟨_, z, _⟩ | ⟨_, p2⟩
      · cases z
      · exact h.env.apart j k zs ws b hjk p1 p2 p3
/-- a thing of the store is written -/
theorem Hold.store {K : Frag} {g0 : Gh} {H0 : Hp} {S0 : Sto} {σ : L2.St} {H : Hp} {g : Gh} {ρ : Env} {S : Sto} (h : Hold K g0 H0 S0 σ H g ρ S) {n : Nat} {a : Addr} {vs : List V} {xs : List PV} (hb : g.B[n]? = some a) (r : Rps K g vs xs) (hn : n < S.length) :
    Hold K g0 H0 S0 σ (upd H a (.lst vs)) g ρ (S.set n (.lst xs)) := by
  have ma : a ∈ g.B := List.mem_of_getElem? hb
  refine ⟨h.e0, ⟨h.t.gs, h.t.n, h.t.b, fun b o e nb => ?_⟩, h.env.other ma, ⟨fun b o e => ?_, by rw [List.length_set]; exact h.st.len, fun m b mo e1 e2 => ?_, h.st.nog, h.st.nd, fun b hb' => ?_⟩⟩
  · have : b ≠ a := fun z => by subst z; exact h.t.nb e nb ma
    rw [upd_ne this]; exact h.t.f b o e nb
  · have : b ≠ a := fun z => by rw [z, h.st.nog a ma] at e; cases e
    rw [upd_ne this]; exact h.st.sub b o e
  · by_cases hm : n = m
    · subst hm
      rw [hb] at e1; cases e1
      rw [List.getElem?_set_self hn] at e2; cases e2
      exact .lst upd_same r
    · rw [List.getElem?_set_ne hm] at e2
      have : b ≠ a := fun z => by
        subst z
        obtain ⟨l1, e1'⟩ := List.getElem?_eq_some_iff.mp e1
        obtain ⟨l2, hb'⟩ := List.getElem?_eq_some_iff.mp hb
        exact hm ((List.getElem_inj h.st.nd).mp (hb'.trans e1'.symm))
      exact (h.st.ob m b mo e1 e2).keep (fun o e => by rw [upd_ne this]; exact e) (fun _ _ h => h) fun _ _ h => h
  · by_cases z : b = a
    · rw [z, upd_same]; simp
    · rw [upd_ne z]; exact h.st.ok b hb'

/-! ### what is walked by a loop -/
structure EnmG (K : Frag) (g : Gh) (J : It) (xs : List PV) : Prop where
  ex : ∃ (G : Hp → Prop) (Y : Nat → Hp → V → Hp → Prop), Walk J xs.length G Y ∧ (∀ g' H' S', Gle g g' → StR K g' H' S' → G H') ∧
    ∀ i g' H' S' x H2, i < xs.length → Gle g g' → StR K g' H' S' → Y i H' x H2 → ∃ g2 p, xs[i]? = some p ∧ Stp g' H' g2 H2 ∧ StR K g2 H2 S' ∧ Rp K g2 x p
def tIG (K : Frag) (c : Ct) (it : I) : TI := fun σ H R => ∃ g ρ S H0 xs S', At K H σ g ρ S H0 ∧ (∀ (i : Nat) m, ρ[i]? ≠ some (.hold m)) ∧ evI c it ρ S = .ok xs S' ∧ ∀ g' J H', Stp g H g' H' → StR K g' H' S' → EnmG K g' J xs → R J H'
theorem EnmG.of_str {K : Frag} {g : Gh} {x : Sg} : EnmG K g (Its (toS x)) (x.map fun c => .str [c]) := by
  refine ⟨fun _ => True, fun i H v H' => H' = H ∧ ∃ c, (toS x).cps[i]? = some c ∧ v = .str ⟨#[c]⟩, ?_, fun _ _ _ _ _ => trivial, fun i g' H' S' v H2 hi t st y => ?_⟩
  · rw [List.length_map, show x.length = (toS x).cps.size by simp [toS]]
    exact walk_str
  · obtain ⟨e1, c, e2, e3⟩ := y
    subst e1 e3
    refine ⟨g', .str [c], ?_, .refl _ _, st, .str [c]⟩
    have : x[i]? = some c := by simpa [toS] using e2
    rw [List.getElem?_map, this]; rfl
theorem EnmG.of_rng {K : Frag} {g : Gh} {lo : Int} {n : Nat} : EnmG K g (Itr lo n) (rngI lo n) := by
  refine ⟨fun _ => True, YFn fun i => .int (lo + i), ?_, fun _ _ _ _ _ => trivial, fun i g' H' S' v H2 hi t st y => ?_⟩
  · rw [rngI_len]
    exact walk_range
  · rw [rngI_len] at hi
    obtain ⟨e1, e2⟩ := y
    subst e1 e2
    exact ⟨g', _, rngI_get n lo i hi, .refl _ _, st, .int _⟩
theorem EnmG.of_list {K : Frag} {g : Gh} {a : Addr} {vs : List V} {xs : List PV} (s : SqX K g.G a vs) (r : Rps K g vs xs) : EnmG K g (Itl K a) xs := by
  refine ⟨fun H => SqL K H a vs, YAt vs, by rw [← r.length]; exact walk_list, fun g' H' S' t st => (st.sql (sql_mono t.gs s)).l, fun i g' H' S' x H2 hi t st y => ?_⟩
  obtain ⟨e1, e2⟩ := y
  subst e1
  obtain ⟨p, h1, h2⟩ := r.getV e2
  exact ⟨g', p, h1, .refl _ _, st, h2.mono t.gs t.b⟩
theorem EnmG.of_tup {K : Frag} {g : Gh} {a : Addr} {vs : List V} {xs : List PV} (s : SqT K g.G a vs) (r : Rps K g vs xs) : EnmG K g (Itt K a) xs := by
  refine ⟨fun H => SqT K H a vs, YAt vs, by rw [← r.length]; exact walk_tup, fun g' H' S' t st => st.sqt (sqt_mono t.gs s), fun i g' H' S' x H2 hi t st y => ?_⟩
  obtain ⟨e1, e2⟩ := y
  subst e1
  obtain ⟨p, h1, h2⟩ := r.getV e2
  exact ⟨g', p, h1, .refl _ _, st, h2.mono t.gs t.b⟩
theorem EnmG.of_dct {K : Frag} {g : Gh} {a : Addr} {od : Obj} {kvs : List (Key × V)} {ks : List Ky} (s : g.G a = some (.frz od (.dK kvs))) (e : kvs.map (·.1) = ks.map kyK) : EnmG K g (Itk a od kvs) (ks.map kyP) := by
  refine ⟨fun H => H a = some (.frz od (.dK kvs)), fun i H x H' => H' = H ∧ ∃ k v, kvs[i]? = some (k, v) ∧ x = kV k, by
    rw [List.length_map, show ks.length = kvs.length by have := congrArg List.length e; simpa using this.symm]
    exact walk_keys, fun g' H' S' t st => st.sub _ _ (t.gs _ _ s), fun i g' H' S' x H2 hi t st y => ?_⟩
  obtain ⟨e1, k, v, e2, e3⟩ := y
  subst e1 e3
  have h1 : (ks.map kyK)[i]? = some k := by rw [← e, List.getElem?_map, e2]; rfl
  rw [List.getElem?_map, Option.map_eq_some_iff] at h1
  obtain ⟨ky, h1, rfl⟩ := h1
  refine ⟨g', kyP ky, by rw [List.getElem?_map, h1]; rfl, .refl _ _, st, ?_⟩
  cases ky with
  | i n => exact .int n
  | s x => exact .str x
theorem pair_enm {K : Frag} {ys : List PV} {vs : List V} {g' : Gh} {H' : Hp} {S' : Sto} {i : Nat} {x : V} {H2 : Hp} (r : Rps K g' vs ys) (st : StR K g' H' S') (y : YPair (fun i => some (.int (i : Nat))) (fun i => vs[i]?) i H' x H2) :
    ∃ g2 p, (enumI 0 ys)[i]? = some p ∧ Stp g' H' g2 H2 ∧ StR K g2 H2 S' ∧ Rp K g2 x p := by
  obtain ⟨T, u, w, z1, z2, z3, z4, z5⟩ := y
  cases z4
  subst z1 z3
  obtain ⟨p, h1, h2⟩ := r.getV z5
  obtain ⟨t2, st2⟩ := st.put z2 (.tup [.int (i : Nat), w])
  refine ⟨_, .tup [.int (i : Nat), p], ?_, t2, st2, .tup (.inl (.inl upd_same)) (.cons (.int _) (.cons (h2.stp t2) .nil))⟩
  rw [enumI_get h1]
  simp
section
variable {D : Dat} {c : Ct} {n : Nat}
theorem sIG : ∀ (m : I) {X : Cx}, OkX D c n X → ∀ (tg e : Expr), chkI D X.env.scope.names m tg e = true → PI X tg e (tIG X.K c m)
  | .sq (.own i), X, o, tg, e, h => by
    have h' : chkO D X.env.scope.names (.own i) e = true := by cases e <;> simpa only [chkI] using h
    refine PI.weak (pi_seq (sO _ o e h')) fun σ H R q => ?_
    obtain ⟨g, ρ, S, H0, xs, S', a, no, e, k⟩ := q
    simp only [evI, evO] at e
    obtain ⟨p1, S1, e1, e⟩ := ofBind e
    split at e1
    case h_1 ys hp => exact absurd hp (no i _)
    case h_2 ks ys hp => exact absurd hp (no i _)
    case h_3 => cases e1
  | .sq (.e m), X, o, tg, e, h => by
    have h' : chkE D X.env.scope.names m e = true := by cases e <;> simpa only [chkI, chkO] using h
    refine PI.weak (pi_seqD (sE m o e h')) fun σ H R q => ?_
    obtain ⟨g, ρ, S, H0, xs, S', a, no, e, k⟩ := q
    simp only [evI, evO] at e
    obtain ⟨p1, S1, e1, e⟩ := ofBind e
    obtain ⟨e3, e4⟩ := ofOpt e
    subst e4
    refine ⟨g, ρ, S, H0, p1, _, a, e1, fun g1 v H1 t1 st1 rp => ?_⟩
    cases p1 <;> simp only [itemsX, itemsOf, reduceCtorEq, Option.some.injEq] at e3
    case str x =>
      subst e3
      cases rp
      exact .inl (.inr (.inr ⟨_, rfl, k g1 _ H1 t1 st1 .of_str⟩))
    case tup ys =>
      subst e3
      cases rp with
      | tup s r => exact .inl (.inr (.inl ⟨_, rfl, ⟨_, st1.sqt s⟩, k g1 _ H1 t1 st1 (.of_tup s r)⟩))
    case lst ys =>
      subst e3
      cases rp with
      | lst s r => exact .inl (.inl ⟨_, rfl, ⟨_, (st1.sql s).l⟩, k g1 _ H1 t1 st1 (.of_list s r)⟩)
    case dct ks ys =>
      subst e3
      cases rp with
      | dct s1 s2 s3 => exact .inr ⟨_, _, _, rfl, st1.sub _ _ s1, k g1 _ H1 t1 st1 (.of_dct s1 s2)⟩
  | .rng m, X, o, tg, e, h => by
    cases e with
    | Call fn xs kws pos =>
      match fn, xs, kws, h with
      | .Name x p, [y], [], h =>
        simp only [chkI, Bool.and_eq_true] at h
        obtain ⟨⟨⟨h1, h2⟩, h3⟩, h4⟩ := h
        obtain ⟨k1, k2⟩ := free_of o h2
        have ex := eqS_ok h1
        subst ex
        refine PI.weak (pi_range1 k1 k2 (pa_cons (sE m o _ h4) pa_nil (star_cons h3)) (star_cons h3)) fun σ H R q => ?_
        obtain ⟨g, ρ, S, H0, xs, S', a, no, e, k⟩ := q
        simp only [evI] at e
        obtain ⟨p1, S1, e1, e⟩ := ofBind e
        refine ⟨g, ρ, S, H0, p1, _, a, e1, fun g1 v H1 t1 st1 r1 => ?_⟩
        split at e
        case h_1 j =>
          obtain ⟨hl, e⟩ := ofChk e
          cases e
          cases r1
          have hl' : j.natAbs < 2 ^ 62 := Nat.le_of_ble_eq_true hl
          exact ⟨j, rfl, by omega, by omega, k g1 _ H1 t1 st1 .of_rng⟩
        case h_2 => cases e
    | _ => simp [chkI] at h
  | .rng2 m m2, X, o, tg, e, h => by
    cases e with
    | Call fn xs kws pos =>
      match fn, xs, kws, h with
      | .Name x p, [y, y2], [], h =>
        simp only [chkI, Bool.and_eq_true] at h
        obtain ⟨⟨⟨⟨⟨h1, h2⟩, h3⟩, h4⟩, h5⟩, h6⟩ := h
        obtain ⟨k1, k2⟩ := free_of o h2
        have ex := eqS_ok h1
        subst ex
        refine PI.weak (pi_range2 k1 k2 (pa_cons (sE m o _ h5) (pa_cons (sE m2 o _ h6) pa_nil (star_cons h4)) (star_cons h3)) (by rw [star_cons h3, star_cons h4]; rfl) (star_cons h4)) fun σ H R q => ?_
        obtain ⟨g, ρ, S, H0, xs, S', a, no, e, k⟩ := q
        simp only [evI] at e
        obtain ⟨p1, S1, e1, e⟩ := ofBind e
        obtain ⟨p2, S2, e2, e⟩ := ofBind e
        refine ⟨g, ρ, S, H0, p1, _, a, e1, fun g1 v H1 t1 st1 r1 => ⟨g1, ρ, S1, H0, p2, _, a.after t1 st1, e2, fun g2 v2 H2 t2 st2 r2 => ?_⟩⟩
        cases r1 <;> cases r2 <;> first | (simp at e; done) | skip
        case int.int i _ j =>
          obtain ⟨hl, e⟩ := ofChk e
          cases e
          rw [Bool.and_eq_true] at hl
          have hl1 : i.natAbs < 2 ^ 62 := Nat.le_of_ble_eq_true hl.1
          have hl2 : j.natAbs < 2 ^ 62 := Nat.le_of_ble_eq_true hl.2
          exact ⟨i, j, rfl, ⟨by omega, by omega, by omega, by omega⟩, k g2 _ H2 (t1.tr t2 a.st st1) st2 .of_rng⟩
    | _ => simp [chkI] at h
  | .enum (.own i), X, o, tg, e, h => by
    cases e with
    | Call fn xs kws pos =>
      match fn, xs, kws, h with
      | .Name x p, [y], [], h =>
        simp only [chkI, Bool.and_eq_true] at h
        obtain ⟨⟨⟨⟨h0, h1⟩, h2⟩, h3⟩, h4⟩ := h
        obtain ⟨elts, kk, tpos, rfl⟩ := tupP_ok h0
        obtain ⟨k1, k2⟩ := free_of o h2
        have ex := eqS_ok h1
        subst ex
        refine PI.weak (pi_enumA k1 k2 (sO _ o _ h4) (star_cons h3)) fun σ H R q => ?_
        obtain ⟨g, ρ, S, H0, xs, S', a, no, e, k⟩ := q
        simp only [evI, evO] at e
        obtain ⟨p1, S1, e1, e⟩ := ofBind e
        split at e1
        case h_1 ys hp => exact absurd hp (no i _)
        case h_2 ks ys hp => exact absurd hp (no i _)
        case h_3 => cases e1
    | _ => simp [chkI] at h
  | .enum (.e m), X, o, tg, e, h => by
    cases e with
    | Call fn xs kws pos =>
      match fn, xs, kws, h with
      | .Name x p, [y], [], h =>
        simp only [chkI, Bool.and_eq_true] at h
        obtain ⟨⟨⟨⟨h0, h1⟩, h2⟩, h3⟩, h4⟩ := h
        have h4 : chkE D X.env.scope.names m y = true := by cases y <;> simpa only [chkO] using h4
        obtain ⟨elts, kk, tpos, rfl⟩ := tupP_ok h0
        obtain ⟨k1, k2⟩ := free_of o h2
        have ex := eqS_ok h1
        subst ex
        refine PI.weak (pi_enumA k1 k2 (sE m o _ h4) (star_cons h3)) fun σ H R q => ?_
        obtain ⟨g, ρ, S, H0, xs, S', a, no, e, k⟩ := q
        simp only [evI, evO] at e
        obtain ⟨p1, S1, e1, e⟩ := ofBind e
        refine ⟨g, ρ, S, H0, p1, _, a, e1, fun g1 v H1 t1 st1 r1 => ?_⟩
        cases p1 <;> simp only [reduceCtorEq] at e
        case lst ys =>
          cases e
          cases r1 with
          | lst s r => exact ⟨_, _, rfl, .inl ⟨(st1.sql s).l, k g1 _ H1 t1 st1 ⟨fun H => SqL X.K H _ _, _, by rw [enumI_len, ← r.length]; exact walk_enum, fun g' H' S' t st => (st.sql (sql_mono t.gs s)).l, fun i g' H' S' x H2 hi t st y => pair_enm (r.mono t.gs t.b) st y⟩⟩⟩
        case tup ys =>
          cases e
          cases r1 with
          | tup s r => exact ⟨_, _, rfl, .inr ⟨st1.sqt s, k g1 _ H1 t1 st1 ⟨fun H => SqT X.K H _ _, _, by rw [enumI_len, ← r.length]; exact walk_enumT, fun g' H' S' t st => st.sqt (sqt_mono t.gs s), fun i g' H' S' x H2 hi t st y => pair_enm (r.mono t.gs t.b) st y⟩⟩⟩
    | _ => simp [chkI] at h
  | .zip _ _, _, _, _, _, h => by simp [chkI] at h

/-! ### the statements -/
theorem loc_of {X : Cx} {sc : List (Str × NameKind)} {i : Nat} {x : Str} (hs : X.env.scope.names = sc) {N : List Str} (h : tgC N sc i x = true) : N[i]? = some x ∧ Loc X.env.scope x := by
  unfold tgC at h
  rw [Bool.and_eq_true] at h
  refine ⟨atN_ok h.1, ?_⟩
  have h2 := h.2
  rw [← hs] at h2
  split at h2
  case h_1 e => exact .inl e
  case h_2 e => exact .inr e
  case h_3 => cases h2
theorem swapsWith_no {e : Expr} {t : Option Expr} {l : Nat} {env : PySem.Env} (h : noComp e = true) : swapsWith e t l env = pure false := by
  cases e <;> first | rfl | cases h
/-- name = {..}: stored ahead of its end -/
theorem ps_setDc {X : Cx} {i : Nat} {y : Str} {py : Pos} {kx vx tg iter : Expr} {ifs : List Expr} {scope : Scope} {own : List (Str × Nat)} {pos spos : Pos} {wi : TI} {g : TG} {tt : TT} {tk te : TE} (hc : X.calm = true) (hN : X.N.Nodup) (hy : X.N[i]? = some y) (hyl : X.env.scope.names.lookup y = some .local)
    (hsw : swapsWith (.DictComp kx vx [⟨tg, iter, ifs, 0⟩] scope pos) (some (.Name y py)) spos.line X.env = pure true) (hi : PI X tg iter wi) (ok : BlkOk X.N X.env.scope scope own)
    (hg : ∀ (s : Shared) (H : Hp) (C : Addr) (cl : List (Str × Addr)) (fp : List Addr), PG (X.blk s H scope (compEnvC scope cl C X.env) fp) tg g) (ht : ∀ (s : Shared) (H : Hp) (C : Addr) (cl : List (Str × Addr)) (fp : List Addr), PTs (X.blk s H scope (compEnvC scope cl C X.env) fp) ifs tt)
    (hk : ∀ (s : Shared) (H : Hp) (C : Addr) (cl : List (Str × Addr)) (fp : List Addr), PE (X.blk s H scope (compEnvC scope cl C X.env) fp) kx tk)
    (he : ∀ (s : Shared) (H : Hp) (C : Addr) (cl : List (Str × Addr)) (fp : List Addr), PE (X.blk s H scope (compEnvC scope cl C X.env) fp) vx te) (hs : ∀ x, foldedSetIterable iter X.env x = pure x := by intro _; rfl) :
    PS X (.Assign [.Name y py] (.DictComp kx vx [⟨tg, iter, ifs, 0⟩] scope pos) spos) (tAsg (tLk (tDc wi g tt tk te (own.map (·.2)))) (gName i)) := by
  refine ⟨fun pins s σ H D I h => ?_⟩
  rw [exec_Assign_Name_used _ _ _ _ hsw]
  refine wpAny_bind (wpAny_standAt (wpAny_bind ?_))
  show wpAny _ X.A (do let _ ← comprehension (.DictComp kx vx [⟨tg, iter, ifs, 0⟩] scope pos) scope X.env (firstIterPos [⟨tg, iter, ifs, 0⟩] pos) newDict false (eval iter X.env) (some (assign (.Name y py) X.env))) _ _ s
  have h : tDc wi g tt tk te (own.map (·.2)) σ H (fun x H1 => ∃ d kvs, x = .ref d ∧ H1 d = some (.dK kvs) ∧ ∀ od, gName i x σ (upd H1 d (.frz od (.dK kvs))) D.nx) := h
  refine wpAny_bind (thn (dc_core (Qf := fun _ s' => SP X pins D .next s') hc hN I hi ok hg ht hk he hs h fun L C s' m H' I' q hn f => ?_) fun _ s' hq => wpAny_pure (wpAny_pure hq))
  show wpAny _ _ (assign (.Name y py) X.env (.ref L)) _ _ _
  refine wpAny_assign_Name (store_ok2 (v := V.ref L) I' hN hy (.inl hyl) rfl (fun s2 I2 ⟨a, sb, ha⟩ => ?_) (.inr hyl))
  obtain ⟨f0, f1, f2, f3, f4, f5⟩ := f
  have haC : C ≠ a := by
    rcases ha with z | z
    · rw [z]; exact f1
    · exact fun e => f4 y a z e.symm
  refine ⟨m, hn.sameBut sb haC, fun h3 sb3 => ?_⟩
  obtain ⟨d, kvs, _, hd, q⟩ := q
  obtain ⟨od, I3⟩ := (I2.turned (t' := s2.toks) (fun b o hb e => (sb3.2 b hb).trans e) f0 f1 f3 f4 f5).lock hd trivial
  exact ⟨_, _, I3, q od⟩
/-- name = [..], told by the fresh list -/
theorem ps_setL {X : Cx} (o : OkX D c n X) (hfn : ∀ x, X.fn x = true) {i : Nat} {y : Str} {py pos : Pos} {f : F} {e : Expr} (hi : D.N[i]? = some y) (hx : Loc X.env.scope y) (hc : (noComp e || isLC e) = true) (h : chkF D X.env.scope.names f e = true) :
    PS X (.Assign [.Name y py] e pos) (tAsg (tF X.K c f) (gName i)) := by
  have hN : X.N.Nodup := by rw [o.N]; exact o.nd
  have hi' : X.N[i]? = some y := by rw [o.N]; exact hi
  by_cases hn : noComp e = true
  · exact ps_set hN hi' hx (sF f o e h) (swapsWith_no hn) (.inl (hfn y))
  · -- a comprehension: on one line it is stored ahead of its end
    have hl : isLC e = true := by
      rw [Bool.or_eq_true] at hc
      exact hc.resolve_left hn
    cases e with
    | ListComp elt gens scope lpos =>
      by_cases hw : (X.env.blockKind == .function && X.env.kindOf y == some .local && py.line == lpos.line && !(scope.names.any fun (m, k) => m == y && (k == .local || k == .cell))) = true
      case neg =>
        have hs : swapsWith (.ListComp elt gens scope lpos) (some (.Name y py)) pos.line X.env = pure false := by
          exact congrArg pure (Bool.eq_false_iff.mpr hw)
        exact ps_set hN hi' hx (sF f o _ h) hs (.inl (hfn y))
      case pos =>
        have hs : swapsWith (.ListComp elt gens scope lpos) (some (.Name y py)) pos.line X.env = pure true := by
          exact congrArg pure hw
        have hyl : X.env.scope.names.lookup y = some .local := by
          simp only [Bool.and_eq_true] at hw
          exact beq_iff_eq.mp hw.1.1.2
        cases f <;> first | (simp [chkF] at h; done) | skip
        case lc2 own own1 t it cs t1 it1 cs1 el =>
          match gens, h with
          | [⟨tg, iter, ifs, isA⟩, ⟨tg1, iter1, ifs1, isB⟩], h =>
            simp only [chkF, Bool.and_eq_true, decide_eq_true_eq] at h
            obtain ⟨⟨⟨⟨⟨⟨⟨⟨⟨⟨⟨⟨⟨⟨h0, h0'⟩, h1⟩, h2⟩, h2'⟩, h3⟩, h3'⟩, h3''⟩, h4⟩, h5⟩, h6⟩, h7⟩, h8⟩, h9⟩, h10⟩ := h
            subst h0 h0'
            have b := blkOk_by h1
            have ok : BlkOk X.N X.env.scope scope (ownN D.N own) := ⟨b.kind, b.uniq, by rw [o.N]; exact b.ix, b.free, by rw [o.N]; exact b.own⟩
            have hk : ∀ (C : Addr) (cl : List (Str × Addr)), (compEnvC scope cl C X.env).scope.kind = .function := fun _ _ => b.kind
            have hn : ∀ (C : Addr) (cl : List (Str × Addr)), (compEnvC scope cl C X.env).scope.names = relN scope.names X.env.scope.names := fun C cl => rel_names o.kd
            refine PS.weak (ps_setLc2 (g := gT X.K t) (tt := tTTs X.K c cs) (wi1 := iSeq X.K (tE X.K c it1)) (g1 := gT X.K t1) (tt1 := tTTs X.K c cs1) (te := tE X.K c el) (vs1 := own1) o.calm hN hi' hyl hs (sI it o tg iter h4) ok
              (fun i hi => by rw [ownN_snd]; have := List.all_eq_true.mp h3'' i hi; simpa using this)
              (fun s H C cl fp => sTg (o.blk s H scope (compEnvC scope cl C X.env) fp (hk C cl)) (fun x hx => hx) t tg (by show chkTg D.N (compEnvC scope cl C X.env).scope.names _ t tg = true; rw [hn]; exact h5))
              (fun s H C cl fp => sTs cs (o.blk s H scope (compEnvC scope cl C X.env) fp (hk C cl)) ifs (by show chkTs D (compEnvC scope cl C X.env).scope.names cs ifs = true; rw [hn]; exact h6))
              (fun s H C cl fp => pi_seq (sE it1 (o.blk s H scope (compEnvC scope cl C X.env) fp (hk C cl)) iter1 (by show chkE D (compEnvC scope cl C X.env).scope.names it1 iter1 = true; rw [hn]; exact h7)))
              (fun s H C cl fp => sTg (o.blk s H scope (compEnvC scope cl C X.env) fp (hk C cl)) (fun x hx => hx) t1 tg1 (by show chkTg D.N (compEnvC scope cl C X.env).scope.names _ t1 tg1 = true; rw [hn]; exact h8))
              (fun s H C cl fp => sTs cs1 (o.blk s H scope (compEnvC scope cl C X.env) fp (hk C cl)) ifs1 (by show chkTs D (compEnvC scope cl C X.env).scope.names cs1 ifs1 = true; rw [hn]; exact h9))
              (fun s H C cl fp => sE el (o.blk s H scope (compEnvC scope cl C X.env) fp (hk C cl)) elt (by show chkE D (compEnvC scope cl C X.env).scope.names el elt = true; rw [hn]; exact h10)) (fold_no h2) (fun _ => fold_no h2')) fun DD σ H q => ?_
            rw [ownN_snd]
            exact lc2_read (K := X.K) (c := c) (fun j hj => by
              have := List.all_eq_true.mp h3 j hj
              simpa using this) (fun j hj => by
              have := List.all_eq_true.mp h3' j hj
              simpa using this) q
        rename_i own t it cs el
        match gens, h with
        | [⟨tg, iter, ifs, isA⟩], h =>
          simp only [chkF, Bool.and_eq_true, decide_eq_true_eq] at h
          obtain ⟨⟨⟨⟨⟨⟨⟨h0, h1⟩, h2⟩, h3⟩, h4⟩, h5⟩, h6⟩, h7⟩ := h
          subst h0
          have b := blkOk_by h1
          have ok : BlkOk X.N X.env.scope scope (ownN D.N own) := ⟨b.kind, b.uniq, by rw [o.N]; exact b.ix, b.free, by rw [o.N]; exact b.own⟩
          have hk : ∀ (C : Addr) (cl : List (Str × Addr)), (compEnvC scope cl C X.env).scope.kind = .function := fun _ _ => b.kind
          have hn : ∀ (C : Addr) (cl : List (Str × Addr)), (compEnvC scope cl C X.env).scope.names = relN scope.names X.env.scope.names := fun C cl => rel_names o.kd
          refine PS.weak (ps_setLc (g := gT X.K t) (tt := tTTs X.K c cs) (te := tE X.K c el) o.calm hN hi' hyl hs (sI it o tg iter h4) ok
            (fun s H C cl fp => sTg (o.blk s H scope (compEnvC scope cl C X.env) fp (hk C cl)) (fun x hx => hx) t tg (by show chkTg D.N (compEnvC scope cl C X.env).scope.names _ t tg = true; rw [hn]; exact h5))
            (fun s H C cl fp => sTs cs (o.blk s H scope (compEnvC scope cl C X.env) fp (hk C cl)) ifs (by show chkTs D (compEnvC scope cl C X.env).scope.names cs ifs = true; rw [hn]; exact h6))
            (fun s H C cl fp => sE el (o.blk s H scope (compEnvC scope cl C X.env) fp (hk C cl)) elt (by show chkE D (compEnvC scope cl C X.env).scope.names el elt = true; rw [hn]; exact h7)) (fold_no h2)) fun DD σ H q => ?_
          rw [ownN_snd]
          exact lc_read (K := X.K) (c := c) (ht := fun j hj => by
            have := List.all_eq_true.mp h3 j hj
            simpa using this) q
    | DictComp => cases f <;> simp [chkF] at h
    | _ => cases hl
/-- name = value, where the value may be a comprehension -/
theorem ps_setE {X : Cx} (o : OkX D c n X) (hfn : ∀ x, X.fn x = true) {i : Nat} {y : Str} {py pos : Pos} {m : E} {e : Expr} (hi : D.N[i]? = some y) (hx : Loc X.env.scope y) (hc : (noComp e || isLC e) = true) (h : chkE D X.env.scope.names m e = true) :
    PS X (.Assign [.Name y py] e pos) (tAsg (tE X.K c m) (gName i)) := by
  have hN : X.N.Nodup := by rw [o.N]; exact o.nd
  have hi' : X.N[i]? = some y := by rw [o.N]; exact hi
  by_cases hn : noComp e = true
  · exact ps_set hN hi' hx (sE m o e h) (swapsWith_no hn) (.inl (hfn y))
  · have hl : isLC e = true := by
      rw [Bool.or_eq_true] at hc
      exact hc.resolve_left hn
    cases e with
    | DictComp kx vx gens scope lpos =>
      cases m <;> first | (simp [chkE] at h; done) | skip
      case fr f => cases f <;> simp [chkE, chkF] at h
      case new f => cases f <;> simp [chkE, chkF] at h
      case dc own t it cs ek el =>
        by_cases hw : (X.env.blockKind == .function && X.env.kindOf y == some .local && py.line == lpos.line && !(scope.names.any fun (m, k) => m == y && (k == .local || k == .cell))) = true
        case neg =>
          have hs : swapsWith (.DictComp kx vx gens scope lpos) (some (.Name y py)) pos.line X.env = pure false := by
            exact congrArg pure (Bool.eq_false_iff.mpr hw)
          exact ps_set hN hi' hx (sE _ o _ h) hs (.inl (hfn y))
        case pos =>
          have hs : swapsWith (.DictComp kx vx gens scope lpos) (some (.Name y py)) pos.line X.env = pure true := by
            exact congrArg pure hw
          have hyl : X.env.scope.names.lookup y = some .local := by
            simp only [Bool.and_eq_true] at hw
            exact beq_iff_eq.mp hw.1.1.2
          match gens, h with
          | [⟨tg, iter, ifs, isA⟩], h =>
            simp only [chkE, Bool.and_eq_true, decide_eq_true_eq] at h
            obtain ⟨⟨⟨⟨⟨⟨⟨⟨h0, h1⟩, h2⟩, h3⟩, h4⟩, h5⟩, h6⟩, h7⟩, h8⟩ := h
            subst h0
            have b := blkOk_by h1
            have ok : BlkOk X.N X.env.scope scope (ownN D.N own) := ⟨b.kind, b.uniq, by rw [o.N]; exact b.ix, b.free, by rw [o.N]; exact b.own⟩
            have hk : ∀ (C : Addr) (cl : List (Str × Addr)), (compEnvC scope cl C X.env).scope.kind = .function := fun _ _ => b.kind
            have hn : ∀ (C : Addr) (cl : List (Str × Addr)), (compEnvC scope cl C X.env).scope.names = relN scope.names X.env.scope.names := fun C cl => rel_names o.kd
            refine PS.weak (ps_setDc (g := gT X.K t) (tt := tTTs X.K c cs) (tk := tE X.K c ek) (te := tE X.K c el) o.calm hN hi' hyl hs (sI it o tg iter h4) ok
              (fun s H C cl fp => sTg (o.blk s H scope (compEnvC scope cl C X.env) fp (hk C cl)) (fun x hx => hx) t tg (by show chkTg D.N (compEnvC scope cl C X.env).scope.names _ t tg = true; rw [hn]; exact h5))
              (fun s H C cl fp => sTs cs (o.blk s H scope (compEnvC scope cl C X.env) fp (hk C cl)) ifs (by show chkTs D (compEnvC scope cl C X.env).scope.names cs ifs = true; rw [hn]; exact h6))
              (fun s H C cl fp => sE ek (o.blk s H scope (compEnvC scope cl C X.env) fp (hk C cl)) kx (by show chkE D (compEnvC scope cl C X.env).scope.names ek kx = true; rw [hn]; exact h7))
              (fun s H C cl fp => sE el (o.blk s H scope (compEnvC scope cl C X.env) fp (hk C cl)) vx (by show chkE D (compEnvC scope cl C X.env).scope.names el vx = true; rw [hn]; exact h8)) (fold_no h2)) fun DD σ H q => ?_
            rw [ownN_snd]
            exact dc_read (K := X.K) (c := c) (ht := fun j hj => by
              have := List.all_eq_true.mp h3 j hj
              simpa using this) q
    | ListComp elt gens scope lpos =>
      cases m <;> first | (simp [chkE] at h; done) | skip
      case fr f =>
        simp only [chkE] at h
        refine PS.weak (ps_setL (c := c) o hfn hi hx hc h) fun DD σ H q => ?_
        obtain ⟨g, ρ, S, H0, p, S', a, e, k⟩ := q
        simp only [evE] at e
        obtain ⟨xs, S1, e1, e⟩ := ofBind e
        cases e
        exact ⟨g, ρ, S, H0, xs, _, a, e1, fun g1 p vs H1 t1 st1 hp r1 n1 n2 n3 => k _ _ _ (t1.keepL (.lst vs) n3 n1) (st1.keepL hp n1 n2)
          (.lst (.inl (.inl upd_same)) (Rps.mono (g := g1) (g' := ⟨upd g1.G p (.lst vs), g1.B⟩) (fun a' o' e' => by show upd g1.G p _ a' = some o'; rw [upd_ne (fun z => by rw [z, n1] at e'; cases e')]; exact e') (fun _ _ h => h) r1))⟩
      case new f =>
        simp only [chkE] at h
        refine PS.weak (ps_setL (c := c) o hfn hi hx hc h) fun DD σ H q => ?_
        obtain ⟨g, ρ, S, H0, p, S', a, e, k⟩ := q
        simp only [evE] at e
        obtain ⟨xs, S1, e1, e⟩ := ofBind e
        cases e
        refine ⟨g, ρ, S, H0, xs, _, a, e1, fun g1 p vs H1 t1 st1 hp r1 n1 n2 n3 => k _ _ _ (t1.alloc n3) (st1.alloc hp r1 n1 n2) (.ref ?_)⟩
        show (g1.B ++ [p])[S1.length]? = some p
        rw [← st1.len, List.getElem?_append_right (Nat.le_refl _)]
        simp
    | _ => cases hl

/-! two names at once -/
theorem SlotR.stp {K : Frag} {g g' : Gh} {H H' H0 : Hp} {v : V} {s : Slot} (t : Stp g H g' H') (h : SlotR K g H H0 v s) : SlotR K g' H' H0 v s := by
  cases s with
  | no => exact h
  | val p => exact Rp.stp t h
  | hold m =>
    obtain ⟨a, e, h1, h2, h3, h4, h5⟩ := h
    obtain ⟨x, y, z⟩ := t.keepN h2 h3 h4
    exact ⟨a, e, h1.stp t h4, x, y, z, h5⟩
def tEF (K : Frag) (c : Ct) (m : EF) : TE := fun σ H Q => ∃ g ρ S H0 s S', At K H σ g ρ S H0 ∧ evEF c m ρ S = .ok s S' ∧ ∀ g' v H', Stp g H g' H' → StR K g' H' S' → SlotR K g' H' H v s → Q v H'
theorem sEF {X : Cx} (o : OkX D c n X) : ∀ (m : EF) (e : Expr), chkEF D X.env.scope.names m e = true → PE X e (tEF X.K c m)
  | .e m, e, h => by
    refine PE.weak (sE m o e h) fun σ H Q q => ?_
    obtain ⟨g, ρ, S, H0, s, S', a, e, k⟩ := q
    simp only [evEF] at e
    obtain ⟨p, S1, e1, e⟩ := ofBind e
    cases e
    exact ⟨g, ρ, S, H0, p, _, a, e1, fun g' v H' t st r => k g' v H' t st r⟩
  | .f m, e, h => by
    refine PE.weak (sF m o e h) fun σ H Q q => ?_
    obtain ⟨g, ρ, S, H0, s, S', a, e, k⟩ := q
    simp only [evEF] at e
    obtain ⟨p, S1, e1, e⟩ := ofBind e
    cases e
    exact ⟨g, ρ, S, H0, p, _, a, e1, fun g' p vs H' t st hp r n1 n2 n3 => k g' _ H' t st (SlotR.own hp r n1 n2 n3)⟩
  | .d, e, h => by
    match e, h with
    | .Dict [] [] _, _ =>
      refine PE.weak pe_dnewK fun σ H Q q => ?_
      obtain ⟨g, ρ, S, H0, s, S', a, e, k⟩ := q
      simp only [evEF] at e
      cases e
      intro p hp
      obtain ⟨t1, st1⟩ := a.st.junk hp (.dK [])
      have ng : g.G p = none := by
        cases e : g.G p with
        | none => rfl
        | some u => rw [a.st.sub p u e] at hp; cases hp
      have nb : p ∉ g.B := fun m => a.st.ok p m hp
      exact k g _ _ t1 st1 ⟨p, rfl, .dct upd_same rfl .nil, by rw [upd_same]; simp, ng, nb, hp⟩
theorem Hold.old {K : Frag} {g0 : Gh} {H0 : Hp} {S0 : Sto} {σ : L2.St} {H : Hp} {g : Gh} {ρ : Env} {S : Sto} (h : Hold K g0 H0 S0 σ H g ρ S) {a : Addr} (e : H a = none) : H0 a = none := by
  cases q : H0 a with
  | none => rfl
  | some o =>
    by_cases m : a ∈ g0.B
    · exact absurd e (h.st.ok a (h.t.bsub m))
    · rw [h.t.f a o q m] at e; cases e
theorem SlotR.old {K : Frag} {g : Gh} {H H1 H0 : Hp} {v : V} {s : Slot} (h : SlotR K g H H1 v s) (k : ∀ a, H1 a = none → H0 a = none) : SlotR K g H H0 v s := by
  cases s with
  | no => exact h
  | val p => exact h
  | hold m =>
    obtain ⟨a, e, h1, h2, h3, h4, h5⟩ := h
    exact ⟨a, e, h1, h2, h3, h4, k a h5⟩
/-- the state behind two stores -/
theorem two_set {K : Frag} {g0 : Gh} {H0 : Hp} {S0 : Sto} {σ : L2.St} {H : Hp} {g : Gh} {ρ : Env} {S S1 S2 : Sto} (h : Hold K g0 H0 S0 σ H g ρ S) {g1 : Gh} {H1 : Hp} (t1 : Stp g H g1 H1) (st1 : StR K g1 H1 S1) {g2 : Gh} {H2 : Hp} (t2 : Stp g1 H1 g2 H2) (st2 : StR K g2 H2 S2)
    {v w : V} {s u : Slot} (r1 : SlotR K g1 H1 H v s) (r2 : SlotR K g2 H2 H1 w u) {i j : Nat} (hij : i ≠ j) : Hold K g0 H0 S0 ((σ.set i (some v)).set j (some w)) H2 g2 ((ρ.set i s).set j u) S2 := by
  have h1 := h.step t1 st1
  have h2 := h1.step t2 st2
  have e1 : EnvR K g2 H2 H0 (σ.set i (some v)) (ρ.set i s) := by
    refine h2.env.setSlot ((r1.old fun a z => h.old z).stp t2) fun xs a e1 e2 k ys _ hk => ?_
    subst e1 e2
    obtain ⟨a', e, k1, k2, k3, k4, k5⟩ := r1
    cases e
    exact h.env.fresh k5 k ys hk
  refine ⟨h2.e0, h2.t, e1.setSlot (r2.old fun a z => h1.old z) fun xs a e2 e3 k ys _ hk => ?_, st2⟩
  subst e2 e3
  obtain ⟨a', e, k1, k2, k3, k4, k5⟩ := r2
  cases e
  rcases get_set hk with ⟨e4, e5, hl⟩ | ⟨ne, hk⟩
  · subst e4 e5
    obtain ⟨a2, z, _, z1, _⟩ := r1
    rw [List.getElem?_set_self (by rw [h.env.len]; exact hl)]
    intro z2
    rw [z] at z2
    cases z2
    exact z1 k5
  · rw [List.getElem?_set_ne ne]
    exact h1.env.fresh k5 k ys hk
theorem any_noStar {ea eb : Expr} (n1 : noStar ea = true) (n2 : noStar eb = true) (f : Expr → Bool) (hf : ∀ e, noStar e = true → f e = false) : [ea, eb].any f = false := by
  simp [hf _ n1, hf _ n2]
theorem all_ff {ea eb : Expr} (f : Expr → Bool) : [ea, eb].all f = (f ea && f eb) := by
  simp
theorem swap_none {X : Cx} {x y : Str} {px py pt pt2 : Pos} {kt k2 : Nat} {ea eb : Expr} (h : tupC X.env.scope.names x y ea eb = true) (n1 : noStar ea = true) (n2 : noStar eb = true) :
    swappedStores [.Tuple [.Name x px, .Name y py] kt pt] (.Tuple [ea, eb] k2 pt2) X.env = pure none := by
  unfold swappedStores
  simp only [List.length_cons, List.length_nil]
  rw [any_noStar n1 n2 _ (by intro e h; cases e <;> first | rfl | cases h), all_ff]
  by_cases hk : X.env.blockKind = .function
  case neg => simp [hk]
  unfold tupC locC at h
  simp only [Bool.or_eq_true, Bool.not_eq_true'] at h
  have kx : ∀ z, (match X.env.scope.names.lookup z with | some .local => true | _ => false) = false → (X.env.kindOf z == some .local) = false := fun z hz => by
    cases e : (X.env.kindOf z == some .local)
    · rfl
    · rw [beq_iff_eq] at e
      have e' : X.env.scope.names.lookup z = some .local := e
      rw [e'] at hz
      cases hz
  rcases h with (h | h) | h
  · have := kx x h
    simp only [List.filterMap_cons, this, Bool.false_and]
    cases (X.env.kindOf y == some NameKind.local && py.line == (Option.map (fun x => x.pos.line) [Expr.Name x px, Expr.Name y py].head?).getD 0) <;> simp [hk]
  · have := kx y h
    simp only [List.filterMap_cons, this, Bool.false_and]
    cases (X.env.kindOf x == some NameKind.local && px.line == (Option.map (fun x => x.pos.line) [Expr.Name x px, Expr.Name y py].head?).getD 0) <;> simp [hk]
  · rw [h]
    simp only [if_true]
    split
    · rfl
    · split
      · rename_i q; cases q
      · split <;> rfl
theorem swap_some {X : Cx} {x y : Str} {px py pt pt2 : Pos} {kt k2 : Nat} {ea eb : Expr} (hk : X.env.scope.kind = .function) (h : swapC X.env.scope.names x y px py ea eb = true) :
    swappedStores [.Tuple [.Name x px, .Name y py] kt pt] (.Tuple [ea, eb] k2 pt2) X.env = pure (some [x, y]) ∧ X.env.scope.names.lookup x = some .local ∧ X.env.scope.names.lookup y = some .local := by
  unfold swapC at h
  simp only [Bool.and_eq_true, Bool.not_eq_true', beq_iff_eq] at h
  obtain ⟨⟨⟨⟨⟨⟨⟨⟨h1, h2⟩, _⟩, h3⟩, h4⟩, n1⟩, n2⟩, h5⟩, h6⟩ := h
  have kx : ∀ z, locC X.env.scope.names z = true → X.env.scope.names.lookup z = some .local := fun z hz => by
    unfold locC at hz
    split at hz
    case h_1 e => exact e
    case h_2 => cases hz
  have k1 : X.env.kindOf x = some .local := kx x h1
  have k2' : X.env.kindOf y = some .local := kx y h2
  have hb : X.env.blockKind = .function := by unfold Env.blockKind; rw [hk]; rfl
  have hxy : x ≠ y := fun z => by
    subst z
    have : eqS x x = true := by
      unfold eqS
      generalize x.cps.toList = l
      induction l with
      | nil => rfl
      | cons a l ih => simp [eqL, ih]
    rw [this] at h4; cases h4
  refine ⟨?_, kx x h1, kx y h2⟩
  unfold swappedStores
  simp only [List.length_cons, List.length_nil]
  rw [any_noStar n1 n2 _ (by intro e h; cases e <;> first | rfl | cases h), all_ff, all_ff, h5, h6]
  have hf : ∀ f : Expr → Option Str, f (.Name x px) = some x → f (.Name y py) = some y → List.filterMap f [.Name x px, .Name y py] = [x, y] := fun f p q => by simp [p, q]
  have hd : [x, y].eraseDups = [x, y] := by
    have : (y == x) = false := by
      cases e : (y == x)
      · rfl
      · exact absurd (by simpa using e) (Ne.symm hxy)
    simp [List.eraseDups_cons, this]
  rw [hf _ (by simp [k1]; rfl) (by simp [k2', h3]; rfl), hd, hb]
  rfl
theorem eqS_refl (x : Str) : eqS x x = true := by
  unfold eqS
  generalize x.cps.toList = l
  induction l with
  | nil => rfl
  | cons a l ih => simp [eqL, ih]
theorem swap3_some {X : Cx} {x y z : Str} {px py pz pt pt2 : Pos} {kt k2 : Nat} {ea eb ec : Expr} (hk : X.env.scope.kind = .function) (h : swap3C X.env.scope.names x y z px py pz ea eb ec = true) :
    swappedStores [.Tuple [.Name x px, .Name y py, .Name z pz] kt pt] (.Tuple [ea, eb, ec] k2 pt2) X.env = pure (some [x, y, z]) ∧ X.env.scope.names.lookup x = some .local ∧ X.env.scope.names.lookup y = some .local ∧ X.env.scope.names.lookup z = some .local := by
  unfold swap3C at h
  simp only [Bool.and_eq_true, Bool.not_eq_true', beq_iff_eq] at h
  obtain ⟨⟨⟨⟨⟨⟨⟨⟨⟨⟨⟨⟨h1, h2⟩, h2z⟩, h3⟩, h3z⟩, h4⟩, h4z⟩, h4y⟩, n1⟩, n2⟩, n3⟩, h5⟩, h6⟩ := h
  have kx : ∀ z, locC X.env.scope.names z = true → X.env.scope.names.lookup z = some .local := fun z hz => by
    unfold locC at hz
    split at hz
    case h_1 e => exact e
    case h_2 => cases hz
  have k1 : X.env.kindOf x = some .local := kx x h1
  have k2' : X.env.kindOf y = some .local := kx y h2
  have k3' : X.env.kindOf z = some .local := kx z h2z
  have hb : X.env.blockKind = .function := by unfold Env.blockKind; rw [hk]; rfl
  have ne : ∀ {u v : Str}, eqS u v = false → u ≠ v := fun {u v} e z => by
    subst z
    rw [eqS_refl] at e; cases e
  have hxy := ne h4
  have hxz := ne h4z
  have hyz := ne h4y
  refine ⟨?_, kx x h1, kx y h2, kx z h2z⟩
  unfold swappedStores
  simp only [List.length_cons, List.length_nil]
  have any3 : ∀ f : Expr → Bool, (∀ e, noStar e = true → f e = false) → [ea, eb, ec].any f = false := fun f hf => by simp [hf _ n1, hf _ n2, hf _ n3]
  have all3 : ∀ f : Expr → Bool, [ea, eb, ec].all f = (f ea && (f eb && f ec)) := fun f => by simp
  rw [any3 _ (by intro e h; cases e <;> first | rfl | cases h), all3, all3, h5, h6]
  have hf : ∀ f : Expr → Option Str, f (.Name x px) = some x → f (.Name y py) = some y → f (.Name z pz) = some z → List.filterMap f [.Name x px, .Name y py, .Name z pz] = [x, y, z] := fun f p q r => by simp [p, q, r]
  have bn : ∀ {u v : Str}, u ≠ v → (v == u) = false := fun {u v} n => by
    cases e : (v == u)
    · rfl
    · exact absurd (by simpa using e) (Ne.symm n)
  have hd : [x, y, z].eraseDups = [x, y, z] := by
    simp [List.eraseDups_cons, bn hxy, bn hxz, bn hyz]
  rw [hf _ (by simp [k1]; rfl) (by simp [k2', h3]; rfl) (by simp [k3', h3z]; rfl), hd, hb]
  rfl
theorem base_no {e : Expr} {m : Str} {env : PySem.Env} (h : noCall0 e = true) : attributeBase e m env (eval e env) = eval e env := by
  cases e <;> first | rfl | skip
  rename_i f xs kws pos
  cases xs with
  | nil => cases h
  | cons y ys => cases f <;> rfl
theorem sub_asg {oe ke : Expr} {pos : Pos} {env : PySem.Env} (h : plainX ke = true) : ∀ v, assign (.Subscript oe ke pos) env v = (do
      let ov ← holding [v] (eval oe env)
      let iv ← holding [v, ov] (eval ke env)
      standAt pos
      holding [v, ov, iv] (setItem ov iv v)
      release [v, ov, iv] []) := by
  intro v
  cases ke <;> first | rfl | cases h
theorem beq_ne {i j : Nat} (h : (!(Nat.beq i j)) = true) : i ≠ j := by
  intro z
  subst z
  simp at h

mutual
theorem sS {X : Cx} (o : OkX D c n X) (hfn : ∀ x, X.fn x = true) : ∀ (m : S) (st : Stmt), chkS D X.env.scope.names m st = true → PS X st (tS X.K c m)
  | .set t e, st, h => by
    cases st <;> first | (simp [chkS] at h; done) | skip
    rename_i tgs x pos
    match tgs, h with
    | [tg], h =>
      simp only [chkS, Bool.and_eq_true] at h
      obtain ⟨⟨⟨⟨h1, h2⟩, h3⟩, h4⟩, h5⟩ := h
      have fin : ∀ (DD : Ends) (σ : L2.St) (H : Hp), tS X.K c (.set t e) DD σ H → tAsg (tE X.K c e) (gT X.K t) DD σ H := fun DD σ H q => by
        obtain ⟨g0, H0, S0, g, ρ, S, f, S', a, ev, k⟩ := q
        simp only [evS] at ev
        obtain ⟨p, S1, e1, ev⟩ := ofBind ev
        split at ev
        case h_2 => cases ev
        case h_1 ρ' hρ =>
          cases ev
          exact ⟨g, ρ, S, H0, p, _, a.at, e1, fun g1 v H1 t1 st1 r1 => ⟨g1, p, ρ, ρ', _, H0, ⟨a.env.stp t1, st1⟩, r1, hρ, fun σ' env' _ => k g1 σ' H1 t1.gle ⟨a.e0, a.t.tr t1 a.e0 a.st, env', st1⟩⟩⟩
      have hg := sTg o (fun x _ => hfn x) t tg h1
      by_cases hc : noComp x = true
      · have hw : swappedStores [tg] x X.env = pure none := by
          cases tg <;> first | rfl | skip
          case Tuple => cases x <;> first | rfl | (simp [isTup] at h4)
          case List => cases t <;> simp [chkTg] at h1
        refine PS.weak (ps_asg (sE e o x h5) hg (swapsWith_no hc) hw ?_) fin
        rw [each_cons h2]; rfl
      by_cases ht : isTup tg = true
      · have hw : swappedStores [tg] x X.env = pure none := by
          cases tg <;> first | rfl | skip
          case Tuple => cases x <;> first | rfl | (simp [isTup] at h4)
          case List => cases t <;> simp [chkTg] at h1
        have hs : ∀ l : Nat, swapsWith x (some tg) l X.env = pure false := fun l => by
          cases tg <;> first | (simp [isTup] at ht; done) | skip
          cases x <;> rfl
        refine PS.weak (ps_asg (sE e o x h5) hg (hs _) hw ?_) fin
        rw [each_cons h2]; rfl
      · have hn : isLC x = true ∧ isName tg = true := by
          rw [Bool.or_eq_true, Bool.or_eq_true] at h3
          rcases h3 with (h3 | h3) | h3
          · exact absurd h3 hc
          · simpa using h3
          · exact absurd h3 ht
        cases tg <;> first | (cases hn.2; done) | skip
        rename_i y py
        cases t <;> first | (simp [chkTg] at h1; done) | skip
        rename_i i
        simp only [chkTg, Bool.and_eq_true] at h1
        have hl := loc_of (X := X) (sc := X.env.scope.names) (i := i) (x := y) (N := D.N) rfl (by
          unfold tgC
          rw [h1.1, Bool.true_and]
          exact h1.2)
        refine PS.weak (ps_setE (c := c) o hfn hl.1 hl.2 (by rw [hn.1, Bool.or_true]) h5) fun DD σ H q => ?_
        obtain ⟨g0, H0, S0, g, ρ, S, f, S', a, ev, k⟩ := q
        simp only [evS] at ev
        obtain ⟨p, S1, e1, ev⟩ := ofBind ev
        simp only [asg] at ev
        cases ev
        exact ⟨g, ρ, S, H0, p, _, a.at, e1, fun g1 v H1 t1 st1 r1 => k g1 _ H1 t1.gle ⟨a.e0, a.t.tr t1 a.e0 a.st, (a.env.stp t1).setVal r1, st1⟩⟩
  | .setO i f, st, h => by
    cases st <;> first | (simp [chkS] at h; done) | skip
    rename_i tgs x pos
    match tgs, h with
    | [.Name y py], h =>
      simp only [chkS, Bool.and_eq_true] at h
      obtain ⟨⟨h1, h2⟩, h3⟩ := h
      obtain ⟨l1, l2⟩ := loc_of rfl h1
      refine PS.weak (ps_setL (c := c) o hfn l1 l2 h2 h3) fun DD σ H q => ?_
      obtain ⟨g0, H0, S0, g, ρ, S, fl, S', a, ev, k⟩ := q
      simp only [evS] at ev
      obtain ⟨xs, S1, e1, ev⟩ := ofBind ev
      cases ev
      exact ⟨g, ρ, S, H0, xs, _, a.at, e1, fun g1 p vs H1 t1 st1 hp r1 n1 n2 n3 => k g1 _ H1 t1.gle ⟨a.e0, a.t.tr t1 a.e0 a.st,
        (a.env.stp t1).setSlot (s := .own xs) (SlotR.own hp r1 n1 n2 (a.old n3)) (fun ys b _ e2 j zs _ hj => by cases e2; exact a.env.fresh n3 j zs hj), st1⟩⟩
  | .par i a j b, st, h => by
    cases st <;> first | (simp [chkS] at h; done) | skip
    rename_i tgs x pos
    match tgs, x, h with
    | [.Tuple [.Name x px, .Name y py] kt pt], .Tuple [ea, eb] k2 pt2, h =>
      simp only [chkS, Bool.and_eq_true] at h
      obtain ⟨⟨⟨⟨⟨⟨⟨h1, h2⟩, h3⟩, h4⟩, h5⟩, h6⟩, h7⟩, h8⟩ := h
      obtain ⟨l1, l2⟩ := loc_of rfl h1
      obtain ⟨l3, l4⟩ := loc_of rfl h2
      have hij := beq_ne h3
      have hN : X.N.Nodup := by rw [o.N]; exact o.nd
      have pa : PA X [ea, eb] (tCons (tEF X.K c a) (tCons (tEF X.K c b) tNil)) := pa_cons (sEF o a ea h6) (pa_cons (sEF o b eb h7) pa_nil (star_cons h5)) (star_cons h4)
      rw [Bool.or_eq_true] at h8
      rcases h8 with h8 | h8
      · obtain ⟨w1, w2, w3⟩ := swap_some (pt := pt) (pt2 := pt2) (kt := kt) (k2 := k2) o.kd h8
        refine PS.weak (ps_par o.calm hN (by rw [o.N]; exact l1) (by rw [o.N]; exact l3) hij w2 w3 pa w1) fun DD σ H q => ?_
        obtain ⟨g0, H0, S0, g, ρ, S, fl, S', hd, ev, k⟩ := q
        simp only [evS] at ev
        obtain ⟨s1, S1, e1, ev⟩ := ofBind ev
        obtain ⟨s2, S2, e2, ev⟩ := ofBind ev
        cases ev
        exact ⟨g, ρ, S, H0, s1, S1, hd.at, e1, fun g1 v1 H1 t1 st1 r1 => ⟨g1, ρ, S1, H0, s2, _, hd.at.after t1 st1, e2, fun g2 v2 H2 t2 st2 r2 => ⟨v1, v2, rfl, k g2 _ H2 (t1.gle.trans t2.gle) (two_set hd t1 st1 t2 st2 r1 r2 hij)⟩⟩⟩
      · refine PS.weak (ps_asg (pe_tup pa) (pg_tup o.calm (pgs_cons (pg_name hN (by rw [o.N]; exact l1) l2 (.inl (hfn x))) (pgs_cons (pg_name hN (by rw [o.N]; exact l3) l4 (.inl (hfn y))) pgs_nil))) rfl (swap_none h8 h4 h5) rfl) fun DD σ H q => ?_
        obtain ⟨g0, H0, S0, g, ρ, S, fl, S', hd, ev, k⟩ := q
        simp only [evS] at ev
        obtain ⟨s1, S1, e1, ev⟩ := ofBind ev
        obtain ⟨s2, S2, e2, ev⟩ := ofBind ev
        cases ev
        refine ⟨g, ρ, S, H0, s1, S1, hd.at, e1, fun g1 v1 H1 t1 st1 r1 => ⟨g1, ρ, S1, H0, s2, _, hd.at.after t1 st1, e2, fun g2 v2 H2 t2 st2 r2 => ⟨by rw [sizeLine_eq]; show 2 ≤ 16777216; decide, fun p hp => ?_⟩⟩⟩
        have hh := two_set hd t1 st1 t2 st2 r1 r2 hij
        obtain ⟨t3, st3⟩ := st2.junk hp (.tup [v1, v2])
        exact ⟨p, [v1, v2], rfl, .inl (.inl upd_same), rfl, v1, [v2], rfl, v2, [], rfl, rfl, k g2 _ _ (t1.gle.trans t2.gle) (hh.step t3 st3)⟩
  | .setx oo kk v, st, h => by
    cases st <;> first | (simp [chkS] at h; done) | skip
    rename_i tgs x pos
    match tgs, h with
    | [.Subscript oe ke spos], h =>
      simp only [chkS, Bool.and_eq_true] at h
      obtain ⟨⟨⟨⟨h1, h0⟩, h2⟩, h3⟩, h4⟩ := h
      refine PS.weak (ps_asg (sE v o x h4) (pg_sub (sE oo o oe h2) (sE kk o ke h3) set_list (sub_asg h0)) (swapsWith_no (t := some (.Subscript oe ke spos)) (l := pos.line) (env := X.env) h1) rfl rfl) fun DD σ H q => ?_
      obtain ⟨g0, H0, S0, g, ρ, S, fl, S', hd, ev, k⟩ := q
      simp only [evS] at ev
      obtain ⟨p1, S1, e1, ev⟩ := ofBind ev
      obtain ⟨p2, S2, e2, ev⟩ := ofBind ev
      obtain ⟨p3, S3, e3, ev⟩ := ofBind ev
      refine ⟨g, ρ, S, H0, p1, S1, hd.at, e1, fun g1 v1 H1 t1 st1 r1 => ⟨g1, ρ, S1, H0, p2, S2, hd.at.after t1 st1, e2, fun g2 v2 H2 t2 st2 r2 => ⟨g2, ρ, S2, H0, p3, S3, (hd.at.after t1 st1).after t2 st2, e3, fun g3 v3 H3 t3 st3 r3 => ?_⟩⟩⟩
      cases p2 <;> cases p3 <;> first | (simp at ev; done) | skip
      case ref.int nn _ ii =>
        simp only at ev
        split at ev
        case h_2 => cases ev
        case h_1 xs hxs =>
          split at ev
          case h_2 => cases ev
          case h_1 jj hj =>
            cases ev
            cases r2 with
            | @ref ad _ hb =>
              cases r3
              have hb3 := t3.bget hb
              have hn : nn < S3.length := (List.getElem?_eq_some_iff.mp hxs).1
              cases st3.ob nn ad _ hb3 hxs with
              | @lst vs _ q1 q2 =>
                have hd3 := ((hd.step t1 st1).step t2 st2).step t3 st3
                refine ⟨ad, vs, ii, jj, rfl, rfl, q1, by rw [q2.length]; exact hj, ?_⟩
                exact k g3 σ _ ((t1.gle.trans t2.gle).trans t3.gle) (hd3.store hb3 (q2.set jj ((r1.stp t2).stp t3)) hn)
  | .setxo i kk v, st, h => by
    cases st <;> first | (simp [chkS] at h; done) | skip
    rename_i tgs x pos
    match tgs, h with
    | [.Subscript (.Name y py) ke spos], h =>
      simp only [chkS, Bool.and_eq_true] at h
      obtain ⟨⟨⟨⟨⟨⟨h1, h0⟩, h2⟩, h3⟩, h4⟩, h5⟩, h6⟩ := h
      obtain ⟨k1, k2, k3⟩ := okN_of h4
      refine PS.weak (ps_asg (sE v o x h6) (pg_sub (pe_var (i := i) (by rw [o.N]; exact atN_ok h2) (vis_of h3) k1 k2) (sE kk o ke h5) set_list (sub_asg h0)) (swapsWith_no (t := some (.Subscript (.Name y py) ke spos)) (l := pos.line) (env := X.env) h1) rfl rfl) fun DD σ H q => ?_
      obtain ⟨g0, H0, S0, g, ρ, S, fl, S', hd, ev, k⟩ := q
      simp only [evS] at ev
      split at ev
      case h_2 => cases ev
      case h_1 xs hxs =>
        obtain ⟨p1, S1, e1, ev⟩ := ofBind ev
        obtain ⟨p3, S3, e3, ev⟩ := ofBind ev
        split at ev
        case h_2 => cases ev
        case h_1 ii =>
          split at ev
          case h_2 => cases ev
          case h_1 jj hj =>
            cases ev
            obtain ⟨ad, vs, q1, q2, q3, q4, q5, q6⟩ := hd.env.ownL i xs hxs
            refine ⟨g, ρ, S, H0, p1, S1, hd.at, e1, fun g1 v1 H1 t1 st1 r1 => ⟨_, q1, g1, ρ, S1, H0, _, _, hd.at.after t1 st1, e3, fun g3 v3 H3 t3 st3 r3 => ?_⟩⟩
            cases r3
            have h3' := (hd.step t1 st1).step t3 st3
            have q2' := t1.f _ _ q2 q5
            have b1 := t1.nb q2 q5
            have g1n := t1.ng q2 q4
            have q2'' := t3.f _ _ q2' b1
            have gn := t3.ng q2' g1n
            have bn := t3.nb q2' b1
            refine ⟨ad, vs, ii, jj, rfl, rfl, q2'', by rw [q3.length]; exact hj, ?_⟩
            exact k g3 σ _ (t1.gle.trans t3.gle) ⟨h3'.e0, h3'.t.poke _ q6, h3'.env.write hxs q1 (((q3.stp t1).stp t3).set jj (r1.stp t3)) gn bn q6, st3.poke _ gn bn⟩
  | .newD i, st, h => by
    cases st <;> first | (simp [chkS] at h; done) | skip
    rename_i tgs x pos
    match tgs, x, h with
    | [.Name y py], .Dict [] [] dpos, h =>
      simp only [chkS] at h
      obtain ⟨l1, l2⟩ := loc_of rfl h
      refine PS.weak (ps_set (by rw [o.N]; exact o.nd) (by rw [o.N]; exact l1) l2 pe_dnewK (by rfl) (.inl (hfn y))) fun DD σ H q => ?_
      obtain ⟨g0, H0, S0, g, ρ, S, fl, S', a, ev, k⟩ := q
      simp only [evS] at ev
      cases ev
      intro p hp
      obtain ⟨t1, st1⟩ := a.st.junk hp (.dK [])
      have ng : g.G p = none := by
        cases e : g.G p with
        | none => rfl
        | some u => rw [a.st.sub p u e] at hp; cases hp
      have nb : p ∉ g.B := fun m => a.st.ok p m hp
      exact k g _ _ (.refl g) ⟨a.e0, a.t.tr t1 a.e0 a.st, (a.env.stp t1).setSlot (s := .dwn [] []) ⟨p, rfl, .dct upd_same rfl .nil, by rw [upd_same]; simp, ng, nb, a.old hp⟩ (fun ys b _ e2 j zs _ hj => by cases e2; exact a.env.fresh hp j zs hj), st1⟩
  | .putD i kk v, st, h => by
    cases st <;> first | (simp [chkS] at h; done) | skip
    rename_i tgs x pos
    match tgs, h with
    | [.Subscript (.Name y py) ke spos], h =>
      simp only [chkS, Bool.and_eq_true] at h
      obtain ⟨⟨⟨⟨⟨⟨h1, h0⟩, h2⟩, h3⟩, h4⟩, h5⟩, h6⟩ := h
      obtain ⟨k1, k2, k3⟩ := okN_of h4
      have hu := o.hu
      refine PS.weak (ps_dput (by omega) (pe_var (i := i) (by rw [o.N]; exact atN_ok h2) (vis_of h3) k1 k2) (sE kk o ke h5) (sE v o x h6) (swapsWith_no h1)) fun DD σ H q => ?_
      obtain ⟨g0, H0, S0, g, ρ, S, fl, S', hd, ev, k⟩ := q
      simp only [evS] at ev
      split at ev
      case h_2 => cases ev
      case h_1 ks xs hxs =>
        obtain ⟨p1, S1, e1, ev⟩ := ofBind ev
        obtain ⟨p3, S3, e3, ev⟩ := ofBind ev
        split at ev
        case h_2 => cases ev
        case h_1 ky hky =>
          obtain ⟨hl, ev⟩ := ofChk ev
          cases ev
          obtain ⟨ad, kvs, q1, q2, qz, q3, q4, q5, q6⟩ := hd.env.ownD i ks xs hxs
          refine ⟨g, ρ, S, H0, p1, S1, hd.at, e1, fun g1 v1 H1 t1 st1 r1 => ⟨_, q1, g1, ρ, S1, H0, _, _, hd.at.after t1 st1, e3, fun g3 v3 H3 t3 st3 r3 => ?_⟩⟩
          have hv : v3 = kV (kyK ky) := by
            cases p3 <;> simp only [kyOf, Option.some.injEq, reduceCtorEq] at hky <;> subst hky <;> cases r3 <;> rfl
          have h3' := (hd.step t1 st1).step t3 st3
          have q2' := t1.f _ _ q2 q5
          have b1 := t1.nb q2 q5
          have g1n := t1.ng q2 q4
          have q2'' := t3.f _ _ q2' b1
          have gn := t3.ng q2' g1n
          have bn := t3.nb q2' b1
          have hlen : kvs.length = ks.length := by
            have := congrArg List.length qz
            simpa only [List.length_map] using this
          have hl' : ks.length < L := Nat.le_of_ble_eq_true hl
          obtain ⟨w1, w2⟩ := put_rel (k := ky) (r1.stp t3) qz ((q3.stp t1).stp t3)
          refine ⟨ad, _, rfl, by rw [hv]; exact DPut.k q2'' (by rw [hlen, line_L]; exact hl'), ?_⟩
          exact k g3 σ _ (t1.gle.trans t3.gle) ⟨h3'.e0, h3'.t.poke _ q6, h3'.env.writeO hxs q1 (.dct upd_same w1 w2) gn bn q6, st3.poke _ gn bn⟩
  | .par3 i a j b l d, st, h => by
    cases st <;> first | (simp [chkS] at h; done) | skip
    rename_i tgs x pos
    match tgs, x, h with
    | [.Tuple [.Name x px, .Name y py, .Name z pz] kt pt], .Tuple [ea, eb, ec] k2 pt2, h =>
      simp only [chkS, Bool.and_eq_true] at h
      obtain ⟨⟨⟨⟨⟨⟨⟨⟨⟨⟨⟨⟨h1, h2⟩, h2z⟩, h3⟩, h3z⟩, h3y⟩, h4⟩, h5⟩, h5c⟩, h6⟩, h7⟩, h7c⟩, h8⟩ := h
      obtain ⟨l1, l2⟩ := loc_of rfl h1
      obtain ⟨l3, l4⟩ := loc_of rfl h2
      obtain ⟨l5, l6⟩ := loc_of rfl h2z
      have hij := beq_ne h3
      have hil := beq_ne h3z
      have hjl := beq_ne h3y
      have hN : X.N.Nodup := by rw [o.N]; exact o.nd
      have pa : PA X [ea, eb, ec] (tCons (tE X.K c a) (tCons (tE X.K c b) (tCons (tE X.K c d) tNil))) := pa_cons (sE a o ea h6) (pa_cons (sE b o eb h7) (pa_cons (sE d o ec h7c) pa_nil (star_cons h5c)) (star_cons h5)) (star_cons h4)
      obtain ⟨w1, w2, w3, w4⟩ := swap3_some (pt := pt) (pt2 := pt2) (kt := kt) (k2 := k2) o.kd h8
      refine PS.weak (ps_par3 o.calm hN (by rw [o.N]; exact l1) (by rw [o.N]; exact l3) (by rw [o.N]; exact l5) hij hil hjl w2 w3 w4 pa w1) fun DD σ H q => ?_
      obtain ⟨g0, H0, S0, g, ρ, S, fl, S', hd, ev, k⟩ := q
      simp only [evS] at ev
      obtain ⟨s1, S1, e1, ev⟩ := ofBind ev
      obtain ⟨s2, S2, e2, ev⟩ := ofBind ev
      obtain ⟨s3, S3, e3, ev⟩ := ofBind ev
      cases ev
      refine ⟨g, ρ, S, H0, s1, S1, hd.at, e1, fun g1 v1 H1 t1 st1 r1 => ⟨g1, ρ, S1, H0, s2, _, hd.at.after t1 st1, e2, fun g2 v2 H2 t2 st2 r2 => ⟨g2, ρ, S2, H0, s3, _, (hd.at.after t1 st1).after t2 st2, e3, fun g3 v3 H3 t3 st3 r3 => ⟨v1, v2, v3, rfl, ?_⟩⟩⟩⟩
      have hh := ((hd.step t1 st1).step t2 st2).step t3 st3
      exact k g3 _ H3 ((t1.gle.trans t2.gle).trans t3.gle) ⟨hh.e0, hh.t, ((hh.env.setVal ((r1.stp t2).stp t3)).setVal (r2.stp t3)).setVal r3, hh.st⟩
  | .ex e, st, h => by
    cases st <;> first | (simp [chkS] at h; done) | skip
    simp only [chkS, Bool.and_eq_true] at h
    refine PS.weak (ps_expr (sE e o _ h.2) (swapsWith_no h.1)) fun DD σ H q => ?_
    obtain ⟨g0, H0, S0, g, ρ, S, fl, S', hd, ev, k⟩ := q
    simp only [evS] at ev
    obtain ⟨p1, S1, e1, ev⟩ := ofBind ev
    cases ev
    exact ⟨g, ρ, S, H0, p1, _, hd.at, e1, fun g1 v1 H1 t1 st1 r1 => k g1 σ H1 t1.gle (hd.step t1 st1)⟩
  | .app i e, st, h => by
    cases st <;> first | (simp [chkS] at h; done) | skip
    rename_i x pos
    cases x <;> first | (simp [chkS] at h; done) | skip
    rename_i fn xs kws cpos
    match fn, xs, kws, h with
    | .Attribute (.Name x p) m apos, [ea], [], h =>
      simp only [chkS, Bool.and_eq_true] at h
      obtain ⟨⟨⟨⟨⟨⟨h1, h2⟩, h3⟩, h4⟩, h5⟩, h6⟩, h7⟩ := h
      obtain ⟨k1, k2, k3⟩ := okN_of h3
      have em := eqS_ok h4
      subst em
      refine PS.weak (ps_expr (pe_bm PySem.F.plainAttrs_list PySem.F.slot_list_append PySem.F.type_list_append mt_append (pe_var (i := i) (by rw [o.N]; exact atN_ok h1) (vis_of h2) k1 k2) (pa_cons (sE e o ea h7) pa_nil (star_cons h6)) rfl
        (by rw [star_cons h6]; rfl) h5 (star_cons h6) rfl) rfl) fun DD σ H q => ?_
      obtain ⟨g0, H0, S0, g, ρ, S, fl, S', hd, ev, k⟩ := q
      simp only [evS] at ev
      split at ev
      case h_2 => cases ev
      case h_1 xs hxs =>
        obtain ⟨p, S1, e1, ev⟩ := ofBind ev
        · obtain ⟨hl, ev⟩ := ofChk ev
          cases ev
          obtain ⟨ad, vs, q1, q2, q3, q4, q5, q6⟩ := hd.env.ownL i xs hxs
          refine ⟨_, q1, .inl ⟨rfl, vs, SqL.of q2⟩, g, ρ, S, H0, p, _, hd.at, e1, fun g1 v H1 t1 st1 r1 => ?_⟩
          have q2' := t1.f _ _ q2 q5
          refine ⟨ad, vs, v, rfl, rfl, q2', by rw [q3.length, line_L]; exact Nat.le_of_ble_eq_true hl, ?_⟩
          have h1' := hd.step t1 st1
          have gn := t1.ng q2 q4
          have bn := t1.nb q2 q5
          refine k g1 σ _ t1.gle ⟨h1'.e0, h1'.t.poke _ q6, h1'.env.write hxs q1 ((q3.stp t1).append (.cons r1 .nil)) gn bn q6, st1.poke _ gn bn⟩
  | .appr oo e, st, h => by
    cases st <;> first | (simp [chkS] at h; done) | skip
    rename_i x pos
    cases x <;> first | (simp [chkS] at h; done) | skip
    rename_i fn xs kws cpos
    match fn, xs, kws, h with
    | .Attribute oe m apos, [ea], [], h =>
      simp only [chkS, Bool.and_eq_true] at h
      obtain ⟨⟨⟨⟨⟨h1, h2⟩, h3⟩, h4⟩, h5⟩, h6⟩ := h
      have em := eqS_ok h2
      subst em
      refine PS.weak (ps_expr (pe_bm PySem.F.plainAttrs_list PySem.F.slot_list_append PySem.F.type_list_append mt_append (sE oo o oe h5) (pa_cons (sE e o ea h6) pa_nil (star_cons h4)) (base_no h1)
        (by rw [star_cons h4]; rfl) h3 (star_cons h4) rfl) rfl) fun DD σ H q => ?_
      obtain ⟨g0, H0, S0, g, ρ, S, fl, S', hd, ev, k⟩ := q
      simp only [evS] at ev
      obtain ⟨p1, S1, e1, ev⟩ := ofBind ev
      cases p1 <;> first | (simp at ev; done) | skip
      case ref nn =>
        simp only at ev
        split at ev
        case h_2 => cases ev
        case h_1 xs0 hxs0 =>
          obtain ⟨p2, S2, e2, ev⟩ := ofBind ev
          split at ev
          case h_2 => cases ev
          case h_1 xs hxs =>
            obtain ⟨hl, ev⟩ := ofChk ev
            cases ev
            refine ⟨g, ρ, S, H0, _, S1, hd.at, e1, fun g1 v1 H1 t1 st1 r1 => ?_⟩
            cases r1 with
            | @ref ad _ hb =>
              cases st1.ob nn ad _ hb hxs0 with
              | @lst vs0 _ q1 q2 =>
                refine ⟨.inl ⟨rfl, vs0, SqL.of q1⟩, g1, ρ, S1, H0, p2, S2, hd.at.after t1 st1, e2, fun g2 v2 H2 t2 st2 r2 => ?_⟩
                have hb2 := t2.bget hb
                have hn : nn < S2.length := (List.getElem?_eq_some_iff.mp hxs).1
                cases st2.ob nn ad _ hb2 hxs with
                | @lst vs _ q3 q4 =>
                  have hd2 := (hd.step t1 st1).step t2 st2
                  refine ⟨ad, vs, v2, rfl, rfl, q3, by rw [q4.length, line_L]; exact Nat.le_of_ble_eq_true hl, ?_⟩
                  exact k g2 σ _ (t1.gle.trans t2.gle) (hd2.store hb2 (q4.append (.cons r2 .nil)) hn)
  | .frz i, st, h => by cases st <;> simp [chkS] at h
  | .ite t a b, st, h => by
    cases st <;> first | (simp [chkS] at h; done) | skip
    simp only [chkS, Bool.and_eq_true] at h
    refine PS.weak (ps_if (sT t o _ h.1.1) (sSs o hfn a _ h.1.2) (sSs o hfn b _ h.2)) fun DD σ H q => ?_
    obtain ⟨g0, H0, S0, g, ρ, S, fl, S', hd, ev, k⟩ := q
    simp only [evS] at ev
    obtain ⟨b1, S1, e1, ev⟩ := ofBind ev
    refine ⟨g, ρ, S, H0, b1, S1, hd.at, e1, fun g1 H1 t1 st1 => ?_⟩
    cases b1 with
    | true => exact iteT ⟨g0, H0, S0, g1, ρ, S1, fl, S', hd.step t1 st1, ev, k.later t1.gle⟩
    | false => exact iteF ⟨g0, H0, S0, g1, ρ, S1, fl, S', hd.step t1 st1, ev, k.later t1.gle⟩
  | .whl t b, st, h => by
    cases st <;> first | (simp [chkS] at h; done) | skip
    rename_i x ys els pos
    match els, h with
    | [], h =>
      simp only [chkS, Bool.and_eq_true] at h
      refine PS.weak (ps_while (by rw [o.xe]; exact .never) (sT t o _ h.1) (sSs o hfn b _ h.2)) fun DD σ H q => ?_
      obtain ⟨g0, H0, S0, g, ρ, S, fl, S', hd, ev, k⟩ := q
      simp only [evS] at ev
      refine ⟨fun m σ H => ∃ g1 ρ1 S1, Gle g g1 ∧ Hold X.K g0 H0 S0 σ H g1 ρ1 S1 ∧ whlL (fun ρ S => evT c t ρ S) (fun ρ S => evSs c b ρ S) m ρ1 S1 = .ok fl S', ⟨c.w, g, ρ, S, .refl g, hd, ev⟩, ?_⟩
      rintro m σ1 H1 ⟨g1, ρ1, S1, l1, h1, ev1⟩
      cases m with
      | zero => cases ev1
      | succ m =>
        simp only [whlL] at ev1
        obtain ⟨b1, S2, e2, ev1⟩ := ofBind ev1
        refine ⟨g1, ρ1, S1, H0, b1, S2, h1.at, e2, fun g2 H2 t2 st2 => ?_⟩
        have h2 := h1.step t2 st2
        have l2 := l1.trans t2.gle
        cases b1 with
        | false =>
          rw [if_neg Bool.false_ne_true] at ev1
          cases ev1
          exact iteF (k g2 σ1 H2 l2 h2)
        | true =>
          rw [if_pos rfl] at ev1
          obtain ⟨f3, S3, e3, ev1⟩ := ofBind ev1
          refine iteT ⟨fun σ' H' => ∃ g4 ρ4 S4, Gle g g4 ∧ Hold X.K g0 H0 S0 σ' H' g4 ρ4 S4 ∧ whlL (fun ρ S => evT c t ρ S) (fun ρ S => evSs c b ρ S) m ρ4 S4 = .ok fl S', fun σ' H' z => ⟨m, Nat.lt_succ_self m, z⟩, g0, H0, S0, g2, ρ1, S2, f3, S3, h2, e3, ?_⟩
          cases f3 with
          | nx ρ3 => exact fun g4 σ4 H4 l4 h4 => ⟨g4, ρ3, S3, l2.trans l4, h4, ev1⟩
          | ct ρ3 => exact fun g4 σ4 H4 l4 h4 => ⟨g4, ρ3, S3, l2.trans l4, h4, ev1⟩
          | bk ρ3 => cases ev1; exact fun g4 σ4 H4 l4 h4 => k g4 σ4 H4 (l2.trans l4) h4
          | rt p => cases ev1; exact k
          | ro p => cases ev1; exact k
  | .for t it b, st, h => by
    cases st <;> first | (simp [chkS] at h; done) | skip
    rename_i tg iter ys els pos
    match els, h with
    | [], h =>
      simp only [chkS, Bool.and_eq_true] at h
      obtain ⟨⟨⟨h1, h2⟩, h3⟩, h4⟩ := h
      refine PS.weak (ps_for (by rw [o.xe]; exact .never) o.calm (sIG it o tg iter h2) (sTg o (fun x _ => hfn x) t tg h3) (sSs o hfn b _ h4) (fold_no h1)) fun DD σ H q => ?_
      obtain ⟨g0, H0, S0, g, ρ, S, fl, S', hd, ev, k⟩ := q
      simp only [evS] at ev
      obtain ⟨items, S1, e1, ev⟩ := ofBind ev
      have envm : EnvR X.K g H H0 σ (ρ.map Slot.mask) := ⟨by rw [List.length_map]; exact hd.env.len, fun i p hp => by
          rw [List.getElem?_map] at hp
          cases q : ρ[i]? with
          | none => rw [q] at hp; cases hp
          | some s =>
            rw [q] at hp
            cases s <;> simp [Slot.mask] at hp
            subst hp
            exact hd.env.val i _ q, fun i xs hp => by
          rw [List.getElem?_map] at hp
          cases q : ρ[i]? with
          | none => rw [q] at hp; cases hp
          | some s => rw [q] at hp; cases s <;> simp [Slot.mask] at hp, fun i j xs ys a _ hp _ _ => by
          rw [List.getElem?_map] at hp
          cases q : ρ[i]? with
          | none => rw [q] at hp; cases hp
          | some s => rw [q] at hp; cases s <;> simp [Slot.mask] at hp⟩
      refine ⟨g, ρ.map Slot.mask, S, H0, items, S1, ⟨envm, hd.st⟩, fun i xs hp => by
          rw [List.getElem?_map] at hp
          cases q : ρ[i]? with
          | none => rw [q] at hp; cases hp
          | some s => rw [q] at hp; cases s <;> simp [Slot.mask] at hp, e1, fun g1 J H1 t1 st1 enm => ?_⟩
      obtain ⟨G, Y, w, hG, hY⟩ := enm.ex
      refine for_it w (fun i σ H => ∃ g2 ρ2 S2, Gle g1 g2 ∧ Hold X.K g0 H0 S0 σ H g2 ρ2 S2 ∧ forL t (fun ρ S => evSs c b ρ S) (items.drop i) ρ2 S2 = .ok fl S') ⟨g1, ρ, S1, .refl g1, hd.step t1 st1, ev⟩
        (fun i σ H _ ⟨g2, ρ2, S2, l2, h2, _⟩ => hG g2 H S2 l2 h2.st) ?hs ?hd
      case hd =>
        rintro σ2 H2 ⟨g2, ρ2, S2, l2, h2, ev2⟩
        rw [List.drop_length] at ev2
        simp only [forL, Res.ok.injEq] at ev2
        obtain ⟨rfl, rfl⟩ := ev2
        exact k g2 σ2 H2 (t1.gle.trans l2) h2
      case hs =>
        rintro i x σ2 H2 H3 hi ⟨g2, ρ2, S2, l2, h2, ev2⟩ y
        obtain ⟨g3, p, y1, y2, y3, y4⟩ := hY i g2 H2 S2 x H3 hi l2 h2.st y
        have hdr : items.drop i = p :: items.drop (i + 1) := by
          obtain ⟨z1, z2⟩ := List.getElem?_eq_some_iff.mp y1
          rw [List.drop_eq_getElem_cons z1, z2]
        rw [hdr] at ev2
        simp only [forL] at ev2
        have h3' := h2.step y2 y3
        have l3 := l2.trans y2.gle
        split at ev2
        case h_1 => cases ev2
        case h_2 ρ3 hρ =>
          obtain ⟨f4, S4, e4, ev2⟩ := ofBind ev2
          refine ⟨g3, p, ρ2, ρ3, S2, H0, h3'.at, y4, hρ, fun σ3 env3 _ => ⟨g0, H0, S0, g3, ρ3, S2, f4, S4, ⟨h3'.e0, h3'.t, env3, y3⟩, e4, ?_⟩⟩
          cases f4 with
          | nx ρ5 => exact fun g4 σ4 H4 l4 h4 => ⟨g4, ρ5, S4, l3.trans l4, h4, ev2⟩
          | ct ρ5 => exact fun g4 σ4 H4 l4 h4 => ⟨g4, ρ5, S4, l3.trans l4, h4, ev2⟩
          | bk ρ5 => cases ev2; exact fun g4 σ4 H4 l4 h4 => k g4 σ4 H4 ((t1.gle.trans l3).trans l4) h4
          | rt p => cases ev2; exact k
          | ro p => cases ev2; exact k
  | .ret e, st, h => by
    cases st <;> first | (simp [chkS] at h; done) | skip
    rename_i v pos
    cases v <;> first | (simp [chkS] at h; done) | skip
    simp only [chkS] at h
    refine PS.weak (ps_ret (sE e o _ h)) fun DD σ H q => ?_
    obtain ⟨g0, H0, S0, g, ρ, S, fl, S', hd, ev, k⟩ := q
    simp only [evS] at ev
    obtain ⟨p, S1, e1, ev⟩ := ofBind ev
    cases ev
    exact ⟨g, ρ, S, H0, p, _, hd.at, e1, fun g1 v H1 t1 st1 r1 => k g1 v H1 (hd.t.tr t1 hd.e0 hd.st) st1 r1⟩
  | .retO i, st, h => by
    cases st <;> first | (simp [chkS] at h; done) | skip
    rename_i v pos
    cases v <;> first | (simp [chkS] at h; done) | skip
    rename_i x
    cases x <;> first | (simp [chkS] at h; done) | skip
    simp only [chkS, Bool.and_eq_true] at h
    obtain ⟨⟨h1, h2⟩, h3⟩ := h
    obtain ⟨k1, k2, k3⟩ := okN_of h3
    refine PS.weak (ps_ret (PE.or2 (pe_var (i := i) (by rw [o.N]; exact atN_ok h1) (vis_of h2) k1 k2) (pe_lk (pe_var (i := i) (by rw [o.N]; exact atN_ok h1) (vis_of h2) k1 k2)))) fun DD σ H q => ?_
    obtain ⟨g0, H0, S0, g, ρ, S, fl, S', hd, ev, k⟩ := q
    simp only [evS] at ev
    split at ev
    case h_3 => cases ev
    case h_2 ks xs hxs =>
      cases ev
      obtain ⟨ad, kvs, q1, q2, qz, q3, q4, q5, q6⟩ := hd.env.ownD i ks xs hxs
      refine .inr ⟨_, q1, ad, kvs, rfl, q2, fun od => k _ _ _ (hd.t.lockL (.frz od (.dK kvs)) q6 q4) (hd.st.lockL q2 q4 q5) (.dct upd_same qz (Rps.mono (g := g) (g' := ⟨upd g.G ad (.frz od (.dK kvs)), g.B⟩) (fun a' o' e' => ?_) (fun _ _ h => h) q3))⟩
      show upd g.G ad _ a' = some o'
      rw [upd_ne (fun z => by rw [z, q4] at e'; cases e')]
      exact e'
    case h_1 xs hxs =>
      cases ev
      obtain ⟨ad, vs, q1, q2, q3, q4, q5, q6⟩ := hd.env.ownL i xs hxs
      exact .inl ⟨_, q1, k g ad vs H hd.t hd.st q2 q3 q4 q5 q6⟩
  | .retN, st, h => by
    cases st <;> first | (simp [chkS] at h; done) | skip
    rename_i v pos
    cases v <;> first | (simp [chkS] at h; done) | skip
    refine PS.weak ps_retN fun DD σ H q => ?_
    obtain ⟨g0, H0, S0, g, ρ, S, fl, S', hd, ev, k⟩ := q
    cases ev
    exact k g _ H hd.t hd.st .non
  | .brk, st, h => by
    cases st <;> first | (simp [chkS] at h; done) | skip
    refine PS.weak ps_break fun DD σ H q => ?_
    obtain ⟨g0, H0, S0, g, ρ, S, fl, S', hd, ev, k⟩ := q
    cases ev
    exact k g σ H (.refl g) hd
  | .cont, st, h => by
    cases st <;> first | (simp [chkS] at h; done) | skip
    refine PS.weak ps_continue fun DD σ H q => ?_
    obtain ⟨g0, H0, S0, g, ρ, S, fl, S', hd, ev, k⟩ := q
    cases ev
    exact k g σ H (.refl g) hd
  | .pass, st, h => by
    cases st <;> first | (simp [chkS] at h; done) | skip
    refine PS.weak ps_pass fun DD σ H q => ?_
    obtain ⟨g0, H0, S0, g, ρ, S, fl, S', hd, ev, k⟩ := q
    cases ev
    exact k g σ H (.refl g) hd
  | .raise, st, h => by
    refine PS.weak ps_never fun DD σ H q => ?_
    obtain ⟨g0, H0, S0, g, ρ, S, fl, S', hd, ev, k⟩ := q
    cases ev
theorem sSs {X : Cx} (o : OkX D c n X) (hfn : ∀ x, X.fn x = true) : ∀ (ms : List S) (sts : List Stmt), chkSs D X.env.scope.names ms sts = true → PSs X sts (tSs X.K c ms)
  | [], sts, h => by
    cases sts with
    | nil =>
      refine PSs.weak pss_nil fun DD σ H q => ?_
      obtain ⟨g0, H0, S0, g, ρ, S, fl, S', hd, ev, k⟩ := q
      cases ev
      exact k g σ H (.refl g) hd
    | cons _ _ => cases h
  | m :: ms, sts, h => by
    by_cases hm : ∃ i, m = .frz i
    · obtain ⟨i, rfl⟩ := hm
      have h' : chkSs D X.env.scope.names ms sts = true := by cases sts <;> simpa only [chkSs] using h
      refine PSs.weak (pss_lk (sSs o hfn ms sts h')) fun DD σ H q => ?_
      obtain ⟨g0, H0, S0, g, ρ, S, fl, S', hd, ev, k⟩ := q
      simp only [evSs, evS] at ev
      obtain ⟨f1, S1, e1, ev⟩ := ofBind ev
      split at e1
      case h_3 => cases e1
      case h_2 ks xs hxs =>
        cases e1
        obtain ⟨ad, kvs, ha, hz⟩ := hd.frzD hxs
        refine .inr ⟨ad, kvs, ha, fun od => ?_⟩
        obtain ⟨g1, l1, h1⟩ := hz od
        exact ⟨g0, H0, S0, g1, _, _, fl, S', h1, ev, k.later l1⟩
      case h_1 xs hxs =>
        cases e1
        obtain ⟨g1, l1, h1⟩ := hd.frz hxs
        exact .inl ⟨g0, H0, S0, g1, _, _, fl, S', h1, ev, k.later l1⟩
    · cases sts with
      | nil => cases m <;> first | (simp [chkSs] at h; done) | skip
               exact absurd ⟨_, rfl⟩ hm
      | cons st sts =>
        have h' : chkS D X.env.scope.names m st = true ∧ chkSs D X.env.scope.names ms sts = true := by
          cases m <;> first | (exact absurd ⟨_, rfl⟩ hm) | simpa only [chkSs, Bool.and_eq_true] using h
        refine PSs.weak (pss_cons (sS o hfn m st h'.1) (sSs o hfn ms sts h'.2)) fun DD σ H q => ?_
        obtain ⟨g0, H0, S0, g, ρ, S, fl, S', hd, ev, k⟩ := q
        simp only [evSs] at ev
        obtain ⟨f1, S1, e1, ev⟩ := ofBind ev
        refine ⟨g0, H0, S0, g, ρ, S, f1, S1, hd, e1, ?_⟩
        cases f1 with
        | nx ρ1 => exact fun g1 σ1 H1 l1 h1 => ⟨g0, H0, S0, g1, ρ1, S1, fl, S', h1, ev, k.later l1⟩
        | bk ρ1 => cases ev; exact k
        | ct ρ1 => cases ev; exact k
        | rt p => cases ev; exact k
        | ro p => cases ev; exact k
end
end
end Mn
end

section
set_option Elab.async false
set_option linter.all false
set_option autoImplicit false
set_option maxRecDepth 100000
/-! MnFn: a def's promise, all defs' promises, the law's end. -/
namespace Mn
open PySem PySem.Spec PyProof.Rows L2

theorem rps_get {K : Frag} {g : Gh} : ∀ {vs : List V} {ps : List PV}, Rps K g vs ps → ∀ (i : Nat) p, ps[i]? = some p → ∃ v, vs[i]? = some v ∧ Rp K g v p
  | _, _, .nil, i, p, h => by cases h
  | _, _, .cons (v := v) r rs, 0, p, h => by cases h; exact ⟨v, rfl, r⟩
  | _, _, .cons r rs, i + 1, p, h => rps_get rs i p h
theorem rps_len {K : Frag} {g : Gh} : ∀ {vs : List V} {ps : List PV}, Rps K g vs ps → vs.length = ps.length
  | _, _, .nil => rfl
  | _, _, .cons r rs => congrArg Nat.succ (rps_len rs)

/-- the slots at the entry -/
theorem env_start {K : Frag} {g : Gh} {H : Hp} {N : List Str} {d : Fn} {vs : List V} {ps : List PV} (r : Rps K g vs ps) (hn : d.ns = N.length) : EnvR K g H H (L2.start N vs) (enter d ps) where
  len := by
    unfold L2.start enter
    simp only [List.length_append, List.length_map, List.length_replicate]
    rw [hn, rps_len r]
  val := fun i p h => by
    unfold enter at h
    by_cases hi : i < ps.length
    · rw [List.getElem?_append_left (by simpa using hi), List.getElem?_map] at h
      cases e : ps[i]? with
      | none => rw [e] at h; cases h
      | some q =>
        rw [e] at h; cases h
        obtain ⟨v, h1, h2⟩ := rps_get r i p e
        refine ⟨v, ?_, h2⟩
        unfold L2.start
        rw [List.getElem?_append_left (by simpa [rps_len r] using hi), List.getElem?_map, h1]
        rfl
    · rw [List.getElem?_append_right (by simpa using hi), List.getElem?_replicate] at h
      split at h <;> cases h
  own := fun i xs h => by
    unfold enter at h
    by_cases hi : i < ps.length
    · rw [List.getElem?_append_left (by simpa using hi), List.getElem?_map] at h
      cases e : ps[i]? with
      | none => rw [e] at h; cases h
      | some q => rw [e] at h; cases h
    · rw [List.getElem?_append_right (by simpa using hi), List.getElem?_replicate] at h
      split at h <;> cases h
  apart := fun i j xs ys a hij h _ _ => by
    unfold enter at h
    by_cases hi : i < ps.length
    · rw [List.getElem?_append_left (by simpa using hi), List.getElem?_map] at h
      cases e : ps[i]? with
      | none => rw [e] at h; cases h
      | some q => rw [e] at h; cases h
    · rw [List.getElem?_append_right (by simpa using hi), List.getElem?_replicate] at h
      split at h <;> cases h

section
variable {P : Program} {w : World} {K : Frag} {mg : Str → Option Value} {base : Heap} {f : Addr} {fd : FuncData}
/-- what the constants are -/
def CnOk (K : Frag) (mg : Str → Option Value) (cn : List Str) (cs : List PV) : Prop := ∀ (i : Nat) (x : Str) (p : PV), cn[i]? = some x → cs[i]? = some p → ∃ u v, mg x = some u ∧ RelV v u ∧ ∀ g, Rp K g v p
def FnsOk (P : Program) (w : World) (K : Frag) (mg : Str → Option Value) (base : Heap) (n : Nat) (fnn : List Str) (c : Ct) : Prop :=
  ∀ (f : Nat) (x : Str), fnn[f]? = some x → ∃ fa fd ps np, mg x = some (.ref fa) ∧ PySem.W.keepIn K (.ref fa) = true ∧ Binds K fd ps [] ∧ FOk P w K mg base n fa fd ps (spC K c f np) ∧ FOk P w K mg base n fa fd ps (spO K c f np) ∧ (∀ (ps : List PV) S p S', c.call f ps S = .ok p S' → ps.length = np) ∧ ∀ (ps : List PV) S p S', c.callO f ps S = .ok p S' → ps.length = np
/-- a def by its body -/
theorem fnF {D : Dat} {c : Ct} {k np : Nat} {x qual : Str} {params : Arguments} {body : List Stmt} {scope : Scope} {ps : List Str} {d : Fn}
    (F : FunD K x qual params body scope [] [] f fd) (Sc : FnScope D.N ps scope) (hns : d.ns = D.N.length) (hnp : ps.length = np)
    (hc : chkSs D scope.names d.body body = true) (hcn : CnOk K mg D.cn c.cs) (hfree : ∀ x ∈ D.free, mg x = none) (hfns : FnsOk P w K mg base k D.fnn c) :
    FOk P w K mg base (k + 1) f fd ps (fun vs H Q _ => vs.length = np ∧ ∃ g qs S fl S', StR K g H S ∧ Rps K g vs qs ∧ evSs c d.body (enter d qs) S = .ok fl S' ∧ FlOk K g H S g { nx := fun _ H' => Q .non H', rt := Q } fl S') := by
  obtain ⟨oc, od, dV, kV, doc, pm, an, cdv, ct, osl, rfl, lk, hcd, _, _⟩ := F.ex
  refine ⟨fun vs H Q E h => by rw [hnp]; exact h.1, fun A outer s H args us vs Q hr hgd e0 hb r hsp => ?_⟩
  obtain ⟨hl, g, qs, S, fl, S', st, rq, ev, kq⟩ := hsp
  have hl' : vs.length = ps.length := by rw [hnp]; exact hl
  have KX : K.In s.heap := e0.mod.kin.keeps fun b o e => (e0.bs b o e).1
  have lim : s.heap.NoLimit := e0.mod.nolimit.keeps fun b o e => (e0.bs b o e).1
  have hkind : ∀ y ∈ ps.zip us, scope.names.lookup y.1 = some .local ∨ (scope.names.lookup y.1 = some .cell ∧ ((cellsFrom (s.heap.objs.size + 1) scope.names []).lookup y.1).isSome = true) := fun ⟨n, v⟩ hy => by
    rcases Sc.par n (List.of_mem_zip hy).1 with q | q
    · exact .inl q
    · exact .inr ⟨q, PySem.W.cellsFrom_some _ _ _ (.inl q)⟩
  refine codeAny_call_function hr.depth (KX _ _ lk) rfl Sc.co Sc.gen rfl (PySem.W.codeRec_of KX hcd) (hb _ _ _ _ ?_)
  refine wpAny_newFunctionEnv_cells Sc.kind hkind fun env he s1 y => ?_
  subst he
  refine ⟨lim.keeps y.toInCall.keep, codeAny_func ?_⟩
  have I : Inv (cxOf CX0 P w K mg base D.N qual scope f cdv A outer s H E0) [] (L2.start D.N vs) H s1 := inv_start Sc hr.hd e0 hl' r y
  have o : OkX D c k (cxOf CX0 P w K mg base D.N qual scope f cdv A outer s H E0).nox :=
    { N := rfl, nd := Sc.nd, calm := rfl, room := hr.deeper _, gd := hgd, xe := rfl, kd := Sc.kind, cns := hcn, free := hfree, fns := hfns }
  have body_ok : PSs (cxOf CX0 P w K mg base D.N qual scope f cdv A outer s H E0) body (tSs K c d.body) := PSs.nox (sSs o (fun _ => rfl) d.body body hc)
  have hq : tSs K c d.body { nx := fun _ H' => Q .non H', rt := Q } (L2.start D.N vs) H := ⟨g, H, S, g, enter d qs, S, fl, S', ⟨st, .refl g H, env_start rq hns, st⟩, ev, kq⟩
  refine wpAny_mono (body_ok.run [] s1 (L2.start D.N vs) H _ I hq) (fun fl s' hs => ?_) fun e s' hs => hs
  have fin : ∀ {σ' : L2.St} {H' : Hp} {v : V} {u : Value}, Inv (cxOf CX0 P w K mg base D.N qual scope f cdv A outer s H E0) [] σ' H' s' → RelV v u → Q v H' → CE outer P w H s Q u s' :=
    fun {σ' H' v u} J rv q => ⟨v, H', J.os, J.bare, J.base, J.hok, rv, q⟩
  cases fl with
  | ret u =>
    obtain ⟨v, σ', H', J, rv, q⟩ := hs
    exact fin J rv q
  | next =>
    obtain ⟨σ', H', J, q⟩ := hs
    exact fin (v := V.non) (u := Value.none) J rfl q
  | brk =>
    obtain ⟨_, _, _, q⟩ := hs
    exact False.elim q
  | cont =>
    obtain ⟨_, _, _, q⟩ := hs
    exact False.elim q

/-! ### all defs -/
structure DefOk (cn fnn free : List Str) (x : Str) (ps : List Str) (d : He.DefD) (m : Fn) : Prop where
  at_ : d.at_ = (x, none)
  ex : ∃ N : List Str, FnScope N ps d.scope ∧ ps.length = m.np ∧ m.ns = N.length ∧ d.dfl = [] ∧ d.kwd = [] ∧ chkSs ⟨N, cn, fnn, free⟩ d.scope.names m.body d.body = true
  bd : ∀ (kV doc pm : Value) (an : Option Addr) (cdv ct : Value) (us : List Value), us.length = ps.length → bindArgs (PySem.W.fnOf d.name d.qual d.params d.body d.scope .none kV doc pm an cdv ct) ⟨us, []⟩ = pure (ps.zip us)
inductive Alls (cn fnn free : List Str) : List Str → List (List Str) → List He.DefD → List Fn → Prop
  | nil : Alls cn fnn free [] [] [] []
  | cons {x : Str} {xs ps : List Str} {pss : List (List Str)} {d : He.DefD} {ds : List He.DefD} {m : Fn} {ms : List Fn} : DefOk cn fnn free x ps d m → Alls cn fnn free xs pss ds ms → Alls cn fnn free (x :: xs) (ps :: pss) (d :: ds) (m :: ms)
theorem Alls.get {cn fnn free : List Str} : ∀ {xs : List Str} {pss : List (List Str)} {ds : List He.DefD} {ms : List Fn}, Alls cn fnn free xs pss ds ms → ∀ (i : Nat) (x : Str), xs[i]? = some x → ∃ ps d m, pss[i]? = some ps ∧ ds[i]? = some d ∧ ms[i]? = some m ∧ DefOk cn fnn free x ps d m
  | _, _, _, _, .nil, i, x, h => by cases h
  | _, _, _, _, .cons (ps := ps) (d := d) (m := m) a r, 0, x, h => by cases h; exact ⟨ps, d, m, rfl, rfl, rfl, a⟩
  | _, _, _, _, .cons a r, i + 1, x, h => r.get i x h

theorem callR_len {fns : List Fn} {cs : List PV} {w : Nat} {n f : Nat} {m : Fn} (h : fns[f]? = some m) {ps : List PV} {S : Sto} {p : Fl} {S' : Sto} (e : callR fns cs w n f ps S = .ok p S') : ps.length = m.np := by
  cases n with
  | zero => cases e
  | succ n =>
    rw [callR_succ h] at e
    obtain ⟨h1, _⟩ := ofChk e
    exact Nat.eq_of_beq_eq_true h1
theorem callO_len {fns : List Fn} {cs : List PV} {w : Nat} {n f : Nat} {m : Fn} (h : fns[f]? = some m) {ps : List PV} {S : Sto} {p : List PV} {S' : Sto} (e : callO fns cs w n f ps S = .ok p S') : ps.length = m.np := by
  unfold callO at e
  cases e2 : callR fns cs w n f ps S with
  | stuck => rw [e2] at e; cases e
  | ok fl S2 => exact callR_len h e2
theorem callN_len {fns : List Fn} {cs : List PV} {w : Nat} {n f : Nat} {m : Fn} (h : fns[f]? = some m) {ps : List PV} {S : Sto} {p : PV} {S' : Sto} (e : callN fns cs w n f ps S = .ok p S') : ps.length = m.np := by
  unfold callN at e
  cases e2 : callR fns cs w n f ps S with
  | stuck => rw [e2] at e; cases e
  | ok fl S2 => exact callR_len h e2
def FnsOk2 (P : Program) (w : World) (K : Frag) (base : Heap) (mg : Str → Option Value) (n : Nat) (fnn : List Str) (pss : List (List Str)) (fn : List He.DefD) (fns : List Fn) (c : Ct) : Prop :=
  ∀ (f : Nat) (x : Str), fnn[f]? = some x → ∃ fd ps d m, pss[f]? = some ps ∧ fn[f]? = some d ∧ fns[f]? = some m ∧ FunD K d.name d.qual d.params d.body d.scope [] [] (He.ga K x) fd ∧ ps.length = m.np ∧
    (∀ (s : Shared) (us : List Value), us.length = ps.length → BindsTo s fd ⟨us, []⟩ (ps.zip us)) ∧ Binds K fd ps [] ∧ FOk P w K mg base n (He.ga K x) fd ps (spC K c f m.np) ∧ FOk P w K mg base n (He.ga K x) fd ps (spO K c f m.np)
theorem FnsOk2.to {fnn : List Str} {pss : List (List Str)} {fn : List He.DefD} {fns : List Fn} {cs : List PV} {wt n : Nat} (h : FnsOk2 P w K base mg n fnn pss fn fns (ctx fns cs wt n)) (hg : ∀ x ∈ fnn, mg x = some (.ref (He.ga K x))) : FnsOk P w K mg base n fnn (ctx fns cs wt n) := fun f x hx => by
  obtain ⟨fd, ps, d, m, h1, h2, h3, F, h4, h5, h6, h7, h8⟩ := h f x hx
  exact ⟨_, fd, ps, m.np, hg x (List.mem_of_getElem? hx), F.kp, h6, h7, h8, fun ps S p S' e => callN_len h3 e, fun ps S p S' e => callO_len h3 e⟩
theorem all_ok {cn fnn free : List Str} {pss : List (List Str)} {fa : List He.Fa} {fn : List He.DefD} {fns : List Fn} {cs : List PV} {wt : Nat} (c : He.SaysD fa fn K) (hg : ∀ x ∈ fnn, mg x = some (.ref (He.ga K x))) (hfree : ∀ x ∈ free, mg x = none)
    (hcn : CnOk K mg cn cs) (al : Alls cn fnn free fnn pss fn fns) : ∀ n, FnsOk2 P w K base mg n fnn pss fn fns (ctx fns cs wt n) := by
  intro n
  induction n with
  | zero =>
    intro f x hx
    obtain ⟨ps, d, m, h0, h1, h2, a⟩ := al.get f x hx
    obtain ⟨N, Sc, hnp, hns, e1, e2, hc⟩ := a.ex
    obtain ⟨fd, F⟩ := c.def_ f h1
    have ed : He.fAd K d.at_ = He.ga K x := by rw [a.at_]; rfl
    have F' : FunD K d.name d.qual d.params d.body d.scope [] [] (He.ga K x) fd := by
      have z := F
      rw [ed] at z
      unfold He.DefD.dvs He.DefD.kws at z
      rw [e1, e2] at z
      exact z
    refine ⟨fd, ps, d, m, h0, h1, h2, F', hnp, F'.bindsA a.bd, F'.bindsN a.bd, ⟨fun vs H Q E h => by rw [hnp]; exact h.1, fun A outer s H args us vs Q hr hgd e0 hb r hsp => ?_⟩, ⟨fun vs H Q E h => by rw [hnp]; exact h.1, fun A outer s H args us vs Q hr hgd e0 hb r hsp => ?_⟩⟩
    · obtain ⟨_, g, ps, S, p, S', _, _, z, _⟩ := hsp
      cases z
    · obtain ⟨_, g, ps, S, p, S', _, _, z, _⟩ := hsp
      cases z
  | succ n ih =>
    intro f x hx
    obtain ⟨ps, d, m, h0, h1, h2, a⟩ := al.get f x hx
    obtain ⟨N, Sc, hnp, hns, e1, e2, hc⟩ := a.ex
    obtain ⟨fd, F⟩ := c.def_ f h1
    have ed : He.fAd K d.at_ = He.ga K x := by rw [a.at_]; rfl
    have F' : FunD K d.name d.qual d.params d.body d.scope [] [] (He.ga K x) fd := by
      have z := F
      rw [ed] at z
      unfold He.DefD.dvs He.DefD.kws at z
      rw [e1, e2] at z
      exact z
    have G := fnF (P := P) (w := w) (base := base) (D := ⟨N, cn, fnn, free⟩) (c := ctx fns cs wt n) F' Sc hns hnp hc hcn hfree (ih.to hg)
    refine ⟨fd, ps, d, m, h0, h1, h2, F', hnp, F'.bindsA a.bd, F'.bindsN a.bd, ⟨fun vs H Q E h => by rw [hnp]; exact h.1, fun A outer s H args us vs Q hr hgd e0 hb r hsp => ?_⟩, ⟨fun vs H Q E h => by rw [hnp]; exact h.1, fun A outer s H args us vs Q hr hgd e0 hb r hsp => ?_⟩⟩
    · refine G.run A outer s H args us vs Q hr hgd e0 hb r ?_
      obtain ⟨hl, g, qs, S, p, S', st, rq, ev, kq⟩ := hsp
      have ev' : leaveF (callR fns cs wt (n + 1) f qs S) = .ok p S' := ev
      rw [callR_succ h2] at ev'
      cases e : Res.chk (Nat.beq qs.length m.np) (evSs (ctx fns cs wt n) m.body (enter m qs) S) with
      | stuck => rw [e] at ev'; cases ev'
      | ok fl S2 =>
        rw [e] at ev'
        refine ⟨hl, g, qs, S, fl, S2, st, rq, (ofChk e).2, ?_⟩
        cases fl with
        | rt q => cases ev'; exact kq
        | ro xs =>
          cases ev'
          exact fun g' a vs' H' t st' h1 h2 h3 h4 h5 => kq _ _ H' (t.keepL (.lst vs') h5 h3) (st'.keepL h1 h3 h4) (.lst (.inl (.inl upd_same)) (Rps.mono (g := g') (g' := ⟨upd g'.G a (.lst vs'), g'.B⟩) (fun a' o' e' => by show upd g'.G a _ a' = some o'; rw [upd_ne (fun z => by rw [z, h3] at e'; cases e')]; exact e') (fun _ _ h => h) h2))
        | nx ρ => cases ev'; exact fun g' σ' H' _ h => kq g' .non H' h.t h.st .non
        | bk ρ => cases ev'
        | ct ρ => cases ev'
    · refine G.run A outer s H args us vs Q hr hgd e0 hb r ?_
      obtain ⟨hl, g, qs, S, p, S', st, rq, ev, kq⟩ := hsp
      have ev' : leaveO (callR fns cs wt (n + 1) f qs S) = .ok p S' := ev
      rw [callR_succ h2] at ev'
      cases e : Res.chk (Nat.beq qs.length m.np) (evSs (ctx fns cs wt n) m.body (enter m qs) S) with
      | stuck => rw [e] at ev'; cases ev'
      | ok fl S2 =>
        rw [e] at ev'
        refine ⟨hl, g, qs, S, fl, S2, st, rq, (ofChk e).2, ?_⟩
        cases fl with
        | ro xs => cases ev'; exact kq
        | rt q => cases ev'
        | nx ρ => cases ev'
        | bk ρ => cases ev'
        | ct ρ => cases ev'
end

/-! ### the law's end -/
open L2 in
theorem law_callF {P : Program} {w : World} {K : Frag} {mg mb : Str → Option Value} {k : Nat} {fa a : Addr} {fd : FuncData} {x : Str} {sp : Sp} {s₁ : Shared} {vs : List Value} {ns : List Int}
    (KX : K.In s₁.heap) (hns : s₁.heap.Ns mainGlobals mg) (hb : s₁.heap.Ns builtinsNs mb) (hbb : ∀ x : Str, x ≠ "__name__" → mb x = bootBuiltins x) (hlim : s₁.heap.NoLimit) (hg : s₁.gens = #[])
    (ha : s₁.heap.get? a = some { cls := .type "list", data := .seq vs.toArray }) (hi : IntsAre vs ns) (hl : ns.length ≤ sizeLine) (hr : Room k callerA)
    (F : ∀ base : Heap, K.In base → base.Ns mainGlobals mg → FOk P w K mg base k fa fd [x] sp) (hbind : ∀ (s : Shared) (u : Value), BindsTo s fd ⟨[u], []⟩ [(x, u)])
    (hsp : ∀ H : Hp, Only H → SqX K H a (ns.map V.int) → sp [.ref a] H (fun v _ => v = .bl true) E0) :
    codeAny (model P w) callerA (.call (.ref fa) ⟨[.ref a], []⟩) (fun r s' => r = .ok (.ret (.bool true)) ∧ OldK s₁.heap s'.heap ∧ s'.os = s₁.os ∧ AllBare s'.gens) s₁ := by
  have rv := vals_ints hi
  have lenV := hi.length
  have core : ∀ H : Hp, Only H → SqX K H a (ns.map V.int) → HOk P w H s₁.heap → (∀ b, H b ≠ none → b = a) → (H a ≠ none → K.lookup a = none) →
      codeAny (model P w) callerA (.call (.ref fa) ⟨[.ref a], []⟩) (fun r s' => r = .ok (.ret (.bool true)) ∧ OldK s₁.heap s'.heap ∧ s'.os = s₁.os ∧ AllBare s'.gens) s₁ := by
    intro H hO hS hok hA hK
    have base_of : ∀ {b : Addr} {o : Obj}, s₁.heap.get? b = some o → H b = none → (hidT s₁.heap H).get? b = some o := fun e n => hidT_get e n
    have noA : ∀ {b : Addr} {o : Obj} {es : Array DictEntry} {ep : Nat}, s₁.heap.get? b = some o → o.data = .dict es ep → H b = none := fun {b o es ep} e d => by
      cases q : H b with
      | none => rfl
      | some u =>
        have e' : b = a := hA b (by rw [q]; simp)
        subst e'
        rw [ha] at e; cases e
        have d' : Data.seq vs.toArray _ = Data.dict es ep := d
        cases d'
    have nsK : ∀ {b : Addr} {m : Str → Option Value}, s₁.heap.Ns b m → (hidT s₁.heap H).Ns b m := fun {b m} ⟨o, es, ep, e, d, r⟩ => ⟨o, es, ep, base_of e (noA e d), d, r⟩
    have hKb : K.In (hidT s₁.heap H) := fun b o e => base_of (KX b o e) (by
      cases q : H b with
      | none => rfl
      | some u =>
        have e' : b = a := hA b (by rw [q]; simp)
        subst e'
        rw [hK (by rw [q]; simp)] at e; cases e)
    have hM : Mod K mg (hidT s₁.heap H) := ⟨hKb, nsK hns, ⟨mb, nsK hb, hbb⟩, let ⟨mc, h1, h2⟩ := hlim; ⟨mc, nsK h1, h2⟩⟩
    have e0 : Env0 P w K mg (hidT s₁.heap H) callerA [] s₁ H := ⟨rfl, hM, fun b o e => of_hidT e, Nat.le_of_eq (hidT_size _ _), trivial, fun b hb => absurd (show b ∈ ([] : List Addr) from hb) (by simp), hok, .of_eq hg⟩
    refine codeAny_mono ((F _ hKb (nsK hns)).run callerA [] s₁ H ⟨[.ref a], []⟩ [.ref a] [.ref a] _ hr rfl e0 (hbind s₁ (.ref a)) (.cons rfl .nil) (hsp H hO hS)) fun r s' h => ?_
    cases r with
    | error e => exact False.elim h
    | ok fl =>
      cases fl with
      | next => exact False.elim h
      | brk => exact False.elim h
      | cont => exact False.elim h
      | ret u =>
        obtain ⟨v, H', os, bare, un, hok', r', q⟩ := h
        have q' : v = .bl true := q
        subst q'
        obtain rfl : u = Value.bool true := r'
        refine ⟨rfl, OldK.of_keep fun b o e => ?_, os, bare⟩
        cases q : H b with
        | none => exact un.keep b o e q (by intro z; exact absurd (show b ∈ ([] : List Addr) from z) (by simp)) (by simp)
        | some u =>
          rcases hO b with z | ⟨ob, xs, z⟩
          · rw [q] at z; cases z
          · have z2 := un.frzs b ob _ z
            obtain ⟨e1, _⟩ := hok b _ z
            obtain ⟨e2, _⟩ := hok' b _ z2
            rw [e] at e1; cases e1
            exact e2
  cases hk : K.lookup a with
  | some o =>
    have e := KX a o hk
    rw [ha] at e
    cases e
    refine core (fun _ => none) (fun _ => .inl rfl) (.inr ⟨vs, hk, by rw [lenV]; exact hl, rv⟩) (fun b u z => by have z' : (none : Option HO) = some u := z; cases z') (fun b z => absurd rfl z) fun z => absurd rfl z
  | none =>
    refine core (fun b => if b = a then some (.frz { cls := .type "list", data := .seq vs.toArray } (.lst (ns.map V.int))) else none) (fun b => ?_) (.inl (.inr ⟨{ cls := .type "list", data := .seq vs.toArray }, if_pos rfl⟩)) (fun b u z => ?_) (fun b z => ?_) fun _ => hk
    · by_cases hb : b = a
      · exact .inr ⟨_, _, if_pos hb⟩
      · exact .inl (if_neg hb)
    · by_cases hb : b = a
      · have z' := (if_pos hb).symm.trans z
        cases z'
        subst hb
        exact ⟨ha, by rw [List.length_map]; exact hl, vs, _, rv, ha⟩
      · have z' := (if_neg hb).symm.trans z
        cases z'
    · by_cases hb : b = a
      · exact hb
      · exact absurd (if_neg hb) z
theorem walk_ofF {l : PySem.W.OpenLaw} {n k : Nat} {q : Program} {loose : List Str} {XP : (Str → Option Value) → Heap → Prop} {YP : World → Heap → Prop} {d : DefRec} {x : Str}
    (hn : l.most = some n) (hn2 : n ≤ sizeLine) (hdf : d.params.defaults = []) (hr : Room k callerA)
    (F : ∀ (w : World) (mg : Str → Option Value) (fa : Addr) (h : Heap), YP w h → h.Ns mainGlobals mg → mg d.name = some (.ref fa) →
      ∃ (K : Frag) (fd : FuncData) (sp : Sp), K.In h ∧ (∀ (s : Shared) (u : Value), BindsTo s fd ⟨[u], []⟩ [(x, u)]) ∧
        (∀ (H : Hp) (a : Addr) (ns : List Int), ns.length ≤ n → Only H → SqX K H a (ns.map V.int) → sp [.ref a] H (fun v _ => v = .bl true) E0) ∧
        ∀ base : Heap, K.In base → base.Ns mainGlobals mg → FOk l.prog w K mg base k fa fd [x] sp) :
    PySem.W.WalkO q loose XP YP l.row.toRowW d [] (fun f vs => PySem.call f vs) := by
  refine Att.attach_call hn hdf fun w s₀ s₁ mg mb fa o pm cd doc a vs ns G Y ho hd hcd hmg hobj hints hlen hg => ?_
  obtain ⟨K, fd, sp, KX, hb, hsp, hF⟩ := F w mg fa _ Y G.T.g hmg
  exact law_callF KX G.T.g G.T.b G.T.builtins G.T.nolimit hg hobj hints (Nat.le_trans hlen hn2) hr hF hb (fun H hO hS => hsp H a ns hlen hO hS)

theorem str_start {K : Frag} {H : Hp} : StR K ⟨H, []⟩ H [] where
  sub := fun _ _ h => h
  len := rfl
  ob := fun n a mo h => by cases h
  nog := fun a h => by cases h
  nd := List.nodup_nil
  ok := fun a h => by cases h

/-- the law: by all defs, and by what the terms' law gives at every script -/
theorem law_end {P : Program} {w : World} {K : Frag} {mg : Str → Option Value} {h : Heap} {cn fnn free : List Str} {pss : List (List Str)} {fa : List He.Fa} {fn : List He.DefD} {fns : List Fn} {cs : List PV} {wt n li most : Nat} {law : Str} {f : Addr} {x : Str}
    (KX : K.In h) (G : h.Ns mainGlobals mg) (hf : mg law = some (.ref f)) (c : He.SaysD fa fn K) (hli : fnn[li]? = some law) (hp : pss[li]? = some [x]) (hg : ∀ x ∈ fnn, He.Fa.glo x ∈ fa) (hfr : ∀ x ∈ free, He.Fa.free x ∈ fa)
    (hcn : CnOk K mg cn cs) (al : Alls cn fnn free fnn pss fn fns)
    (law_ok : ∀ ns : List Int, ns.length ≤ most → ∃ S', callN fns cs wt n li [.lst (ns.map PV.int)] [] = .ok (.bl true) S') :
    ∃ (K : Frag) (fd : FuncData) (sp : Sp), K.In h ∧ (∀ (s : Shared) (u : Value), BindsTo s fd ⟨[u], []⟩ [(x, u)]) ∧
        (∀ (H : Hp) (a : Addr) (ns : List Int), ns.length ≤ most → Only H → SqX K H a (ns.map V.int) → sp [.ref a] H (fun v _ => v = .bl true) E0) ∧
        ∀ base : Heap, K.In base → base.Ns mainGlobals mg → FOk P w K mg base n f fd [x] sp := by
  have fact : ∀ {y : He.Fa}, y ∈ fa → y.ok K = true := fun {y} hy => by
    obtain ⟨i, hi⟩ := List.getElem?_of_mem hy
    exact c.fact i hi
  have hg' : ∀ x ∈ fnn, mg x = some (.ref (He.ga K x)) := fun y hy => He.glo_ok KX G (fact (hg y hy))
  have hfree : ∀ x ∈ free, mg x = none := fun y hy => He.free_ok KX G (fact (hfr y hy))
  have e := hf.symm.trans (hg' law (List.mem_of_getElem? hli))
  cases e
  obtain ⟨fd, ps, d, m, h1, h2, h3, F, h4, h5, _, _, _⟩ := all_ok (P := P) (w := w) (base := h) (wt := wt) c hg' hfree hcn al n li law hli
  have z := hp.symm.trans h1
  cases z
  refine ⟨K, fd, spC K (ctx fns cs wt n) li m.np, KX, fun s v => h5 s [v] rfl, fun H a ns hl hO hS => ?_, fun base hK hB => ?_⟩
  · obtain ⟨S', ev⟩ := law_ok ns hl
    refine ⟨by rw [← h4]; rfl, ⟨H, []⟩, [.lst (ns.map PV.int)], [], .bl true, S', str_start, .cons (.lst hS (rps_ints ns)) .nil, ev, fun g' v H' _ _ r => ?_⟩
    cases r
    rfl
  · obtain ⟨fd', ps', d', m', k1, k2, k3, F', k4, k5, k6, k7, _⟩ := all_ok (P := P) (w := w) (base := base) (wt := wt) c hg' hfree hcn al n li law hli
    have z := hp.symm.trans k1
    cases z
    have z := h3.symm.trans k3
    cases z
    obtain ⟨_, _, _, _, _, _, _, _, _, _, _, lk, _⟩ := F.ex
    obtain ⟨_, _, _, _, _, _, _, _, _, _, _, lk', _⟩ := F'.ex
    have z := lk.symm.trans lk'
    cases z
    exact k7
end Mn
end

section
set_option linter.all false
set_option autoImplicit false
set_option maxRecDepth 100000
/-! MnPlain: what a run of the evaluator gives, said by a wish (Ok); no machine in sight. -/
namespace Mn
def Ok {α : Type} (r : Res α) (Q : α → Sto → Prop) : Prop := ∃ a S, r = .ok a S ∧ Q a S
section
variable {α β : Type} {Q : α → Sto → Prop}
@[simp] theorem ok_ok {a : α} {S : Sto} : Ok (.ok a S) Q ↔ Q a S := ⟨fun ⟨_, _, e, h⟩ => (by cases e; exact h), fun h => ⟨a, S, rfl, h⟩⟩
@[simp] theorem ok_stuck : Ok (.stuck : Res α) Q ↔ False := ⟨fun ⟨_, _, e, _⟩ => (by cases e), False.elim⟩
@[simp] theorem ok_bind {r : Res β} {f : β → Sto → Res α} : Ok (r.bind f) Q ↔ Ok r fun a S => Ok (f a S) Q := by
  cases r with
  | stuck => exact ⟨fun ⟨_, _, e, _⟩ => (by cases e), fun ⟨_, _, e, _⟩ => (by cases e)⟩
  | ok a S => exact ⟨fun h => ⟨a, S, rfl, h⟩, fun ⟨_, _, e, h⟩ => (by cases e; exact h)⟩
@[simp] theorem ok_opt {S : Sto} {o : Option α} : Ok (Res.opt S o) Q ↔ ∃ v, o = some v ∧ Q v S := by
  cases o with
  | none => exact ⟨fun ⟨_, _, e, _⟩ => (by cases e), fun ⟨_, e, _⟩ => (by cases e)⟩
  | some v => exact ⟨fun ⟨_, _, e, h⟩ => (by cases e; exact ⟨v, rfl, h⟩), fun ⟨_, e, h⟩ => (by cases e; exact ⟨v, S, rfl, h⟩)⟩
@[simp] theorem ok_chk {b : Bool} {r : Res α} : Ok (Res.chk b r) Q ↔ b = true ∧ Ok r Q := by
  cases b with
  | true => exact ⟨fun h => ⟨rfl, h⟩, fun h => h.2⟩
  | false => exact ⟨fun ⟨_, _, e, _⟩ => (by cases e), fun h => (by cases h.1)⟩
@[simp] theorem ok_ite {k : Bool} {a b : Res α} : Ok (if k then a else b) Q ↔ (if k then Ok a Q else Ok b Q) := by
  cases k <;> exact Iff.rfl
theorem Ok.mono {r : Res α} {Q' : α → Sto → Prop} (h : Ok r Q) (k : ∀ a S, Q a S → Q' a S) : Ok r Q' := by
  obtain ⟨a, S, e, q⟩ := h
  exact ⟨a, S, e, k a S q⟩
end
/-! ### nodes -/
section
variable {c : Ct} {ρ : Env} {S : Sto} {Q : PV → Sto → Prop} {QB : Bool → Sto → Prop} {QL : List PV → Sto → Prop} {QI : Option Int → Sto → Prop} {QF : Fl → Sto → Prop}
@[simp] theorem ok_v {i : Nat} : Ok (evE c (.v i) ρ S) Q ↔ ∃ p, ρ[i]? = some (.val p) ∧ Q p S := by
  simp only [evE]
  split
  · rename_i p e; simp [e]
  · rename_i h; simp; intro p e; exact absurd e (h p)
@[simp] theorem ok_non : Ok (evE c .non ρ S) Q ↔ Q .non S := by simp [evE]
@[simp] theorem ok_bl {b : Bool} : Ok (evE c (.bl b) ρ S) Q ↔ Q (.bl b) S := by simp [evE]
@[simp] theorem ok_int {i : Int} : Ok (evE c (.int i) ρ S) Q ↔ Q (.int i) S := by simp [evE]
@[simp] theorem ok_str {x : Sg} : Ok (evE c (.str x) ρ S) Q ↔ Q (.str x) S := by simp [evE]
@[simp] theorem ok_glob {i : Nat} : Ok (evE c (.glob i) ρ S) Q ↔ ∃ v, c.cs[i]? = some v ∧ Q v S := by simp [evE]
@[simp] theorem ok_bin {o : Bo} {a b : O} : Ok (evE c (.bin o a b) ρ S) Q ↔ Ok (evO c a ρ S) fun p S => Ok (evO c b ρ S) fun q S => ∃ v, binPV o p q = some v ∧ Q v S := by simp [evE]
@[simp] theorem ok_neg {a : E} : Ok (evE c (.neg a) ρ S) Q ↔ Ok (evE c a ρ S) fun p S => ∃ i, ngI p = some i ∧ Q (.int (-i)) S := by
  simp only [evE, ok_bind]
  constructor <;> refine fun h => h.mono fun p S q => ?_
  · cases e : ngI p <;> simp_all
  · obtain ⟨i, e, q⟩ := q; rw [e]; simpa using q
@[simp] theorem ngI_int {i : Int} : ngI (.int i) = some i := rfl
@[simp] theorem ngI_bl {b : Bool} : ngI (.bl b) = some (b2 b) := rfl
@[simp] theorem ok_not {a : O} : Ok (evE c (.not a) ρ S) Q ↔ Ok (evO c a ρ S) fun p S => ∃ b, truPV (dr S p) = some b ∧ Q (.bl (!b)) S := by
  simp only [evE, ok_bind]
  constructor <;> refine fun h => h.mono fun p S q => ?_
  · split at q <;> simp_all
  · obtain ⟨b, e, q⟩ := q; simp [e, q]
@[simp] theorem ok_cmp {o : Co} {a b : O} : Ok (evE c (.cmp o a b) ρ S) Q ↔ Ok (evO c a ρ S) fun p S => Ok (evO c b ρ S) fun q S => ∃ b, cmpPV o (dr S p) (dr S q) = some b ∧ Q (.bl b) S := by
  simp only [evE, ok_bind]
  constructor <;> refine fun h => h.mono fun p S q => q.mono fun p S q => ?_
  · split at q <;> simp_all
  · obtain ⟨b, e, q⟩ := q; simp [e, q]
@[simp] theorem ok_and {a b : E} : Ok (evE c (.and a b) ρ S) Q ↔ Ok (evE c a ρ S) fun p S => ∃ k, truPV (dr S p) = some k ∧ if k then Ok (evE c b ρ S) Q else Q p S := by
  simp only [evE, ok_bind]
  constructor <;> refine fun h => h.mono fun p S q => ?_
  · split at q <;> simp_all
  · obtain ⟨b, e, q⟩ := q; cases b <;> simpa [e] using q
@[simp] theorem ok_or {a b : E} : Ok (evE c (.or a b) ρ S) Q ↔ Ok (evE c a ρ S) fun p S => ∃ k, truPV (dr S p) = some k ∧ if k then Q p S else Ok (evE c b ρ S) Q := by
  simp only [evE, ok_bind]
  constructor <;> refine fun h => h.mono fun p S q => ?_
  · split at q <;> simp_all
  · obtain ⟨b, e, q⟩ := q; cases b <;> simpa [e] using q
@[simp] theorem ok_ife {t : T} {a b : E} : Ok (evE c (.ife t a b) ρ S) Q ↔ Ok (evT c t ρ S) fun k S => if k then Ok (evE c a ρ S) Q else Ok (evE c b ρ S) Q := by simp [evE]
@[simp] theorem ok_tup {es : List E} : Ok (evE c (.tup es) ρ S) Q ↔ Ok (evEs c es ρ S) fun ps S => ps.length ≤ L ∧ Q (.tup ps) S := by simp [evE]
@[simp] theorem ok_fr {f : F} : Ok (evE c (.fr f) ρ S) Q ↔ Ok (evF c f ρ S) fun ps S => Q (.lst ps) S := by simp [evE]
@[simp] theorem ok_new {f : F} : Ok (evE c (.new f) ρ S) Q ↔ Ok (evF c f ρ S) fun ps S => Q (.ref S.length) (S ++ [.lst ps]) := by simp [evE]
@[simp] theorem ok_ix {a : O} {b : E} : Ok (evE c (.ix a b) ρ S) Q ↔ Ok (evO c a ρ S) fun p S => Ok (evE c b ρ S) fun q S => ∃ v, ixPV (dr S p) q = some v ∧ Q v S := by simp [evE]
@[simp] theorem ok_sl {a : O} {lo hi : B} : Ok (evE c (.sl a lo hi) ρ S) Q ↔ Ok (evO c a ρ S) fun p S => Ok (evB c lo ρ S) fun l S => Ok (evB c hi ρ S) fun h S => ∃ v, slPV p l h = some v ∧ Q v S := by simp [evE]
@[simp] theorem ok_callE {f : Nat} {es : List E} : Ok (evE c (.call f es) ρ S) Q ↔ Ok (evEs c es ρ S) fun ps S => Ok (c.call f ps S) Q := by simp [evE]
@[simp] theorem ok_blt {f : Bl} {es : List O} : Ok (evE c (.blt f es) ρ S) Q ↔ Ok (evOs c es ρ S) fun ps S => ∃ v, bltPV f (ps.map (dr S)) = some v ∧ Q v S := by simp [evE]
@[simp] theorem ok_isi {a : E} {t : Ty} : Ok (evE c (.isi a t) ρ S) Q ↔ Ok (evE c a ρ S) fun p S => (∀ n, dr S p ≠ .ref n) ∧ (∀ n, dr S p ≠ .fn n) ∧ (∀ ks xs, dr S p ≠ .dct ks xs) ∧ Q (.bl (isT t (dr S p))) S := by
  simp only [evE, ok_bind]
  constructor <;> refine fun h => h.mono fun p S q => ?_
  · cases e : dr S p <;> simp_all
  · obtain ⟨h1, h2, h3, q⟩ := q
    cases e : dr S p <;> simp_all
@[simp] theorem ok_met {m : Mt} {o : O} {es : List O} : Ok (evE c (.met m o es) ρ S) Q ↔ Ok (evO c o ρ S) fun p S => Ok (evOs c es ρ S) fun ps S => ∃ v, metPV m p (ps.map (dr S)) = some v ∧ Q v S := by simp [evE]
@[simp] theorem ok_get2 {o : O} {k x : E} : Ok (evE c (.get2 o k x) ρ S) Q ↔ Ok (evO c o ρ S) fun p S => Ok (evE c k ρ S) fun q S => Ok (evE c x ρ S) fun r S => ∃ v, getPV p q r = some v ∧ Q v S := by simp [evE]
@[simp] theorem ok_lens {o : O} : Ok (evE c (.lens o) ρ S) Q ↔ Ok (evO c o ρ S) fun p S => ∃ v, lensPV (dr S p) = some v ∧ Q v S := by simp [evE]
@[simp] theorem ok_dictp {o : O} : Ok (evE c (.dictp o) ρ S) Q ↔ Ok (evO c o ρ S) fun p S => ∃ v, dctPV (dr S p) = some v ∧ Q v S := by simp [evE]
@[simp] theorem ok_tupr {a : E} : Ok (evE c (.tupr a) ρ S) Q ↔ Ok (evE c a ρ S) fun p S => ∃ j : Int, p = .int j ∧ j.natAbs < 2 ^ 62 ∧ j.toNat ≤ L ∧ Q (.tup (rngI 0 j.toNat)) S := by
  simp only [evE, ok_bind]
  constructor <;> refine fun h => h.mono fun p S q => ?_
  · cases p <;> simp_all
  · obtain ⟨i, rfl, h1, h2, q⟩ := q
    have h2' := Nat.ble_eq_true_of_le h2
    simp only [ok_chk, h2', Bool.and_true, ok_ok]
    simpa using ⟨h1, q⟩
@[simp] theorem ok_chain {o o' : Co} {a b d : O} : Ok (evE c (.chain o o' a b d) ρ S) Q ↔ Ok (evO c a ρ S) fun p S => Ok (evO c b ρ S) fun q S => ∃ k, cmpPV o (dr S p) (dr S q) = some k ∧ if k then Ok (evO c d ρ S) (fun r S => ∃ b, cmpPV o' (dr S q) (dr S r) = some b ∧ Q (.bl b) S) else Q (.bl false) S := by
  simp only [evE, ok_bind]
  constructor <;> refine fun h => h.mono fun p S q => q.mono fun p' S q => ?_
  · split at q
    · rename_i e
      refine ⟨true, e, ?_⟩
      simp only [ok_bind] at q
      simp only [if_true]
      refine q.mono fun r S q => ?_
      split at q <;> simp_all
    · rename_i e
      exact ⟨false, e, by simpa using q⟩
    · simp at q
  · obtain ⟨k, e, q⟩ := q
    cases k
    · simpa [e] using q
    · simp only [e, ok_bind]
      simp only [if_true] at q
      refine q.mono fun r S q => ?_
      obtain ⟨b, e, q⟩ := q
      simp [e, q]
@[simp] theorem ok_bno : Ok (evB c .no ρ S) QI ↔ QI none S := by simp [evB]
@[simp] theorem ok_be {e : E} : Ok (evB c (.e e) ρ S) QI ↔ Ok (evE c e ρ S) fun p S => ∃ i, p = .int i ∧ QI (some i) S := by
  simp only [evB, ok_bind]
  constructor <;> refine fun h => h.mono fun p S q => ?_
  · cases p <;> simp_all
  · obtain ⟨i, rfl, q⟩ := q; simpa using q
@[simp] theorem ok_enil : Ok (evEs c [] ρ S) QL ↔ QL [] S := by simp [evEs]
@[simp] theorem ok_econs {e : E} {r : List E} : Ok (evEs c (e :: r) ρ S) QL ↔ Ok (evE c e ρ S) fun p S => Ok (evEs c r ρ S) fun ps S => QL (p :: ps) S := by simp [evEs]
@[simp] theorem pv_lst {xs : List PV} : MO.pv (.lst xs) = some (.lst xs) := rfl
@[simp] theorem pv_dct {ks : List Ky} {xs : List PV} : MO.pv (.dct ks xs) = some (.dct ks xs) := rfl
@[simp] theorem pv_dead : MO.pv .dead = none := rfl
@[simp] theorem ok_own {i : Nat} : Ok (evO c (.own i) ρ S) Q ↔ ∃ m, ρ[i]? = some (.hold m) ∧ ∃ p, m.pv = some p ∧ Q p S := by
  simp only [evO]
  split
  · rename_i p e; simp [e]
  · rename_i p e; simp [e]
  · rename_i h1 h2; simp; intro m e p hp; cases m <;> first | exact absurd e (h1 _) | exact absurd e (h2 _ _) | simp at hp
@[simp] theorem ok_oe {e : E} : Ok (evO c (.e e) ρ S) Q ↔ Ok (evE c e ρ S) Q := by simp [evO]
@[simp] theorem ok_onil : Ok (evOs c [] ρ S) QL ↔ QL [] S := by simp [evOs]
@[simp] theorem ok_ocons {e : O} {r : List O} : Ok (evOs c (e :: r) ρ S) QL ↔ Ok (evO c e ρ S) fun p S => Ok (evOs c r ρ S) fun ps S => QL (p :: ps) S := by simp [evOs]
@[simp] theorem ok_tand {a b : T} : Ok (evT c (.and a b) ρ S) QB ↔ Ok (evT c a ρ S) fun k S => if k then Ok (evT c b ρ S) QB else QB false S := by simp [evT]
@[simp] theorem ok_tor {a b : T} : Ok (evT c (.or a b) ρ S) QB ↔ Ok (evT c a ρ S) fun k S => if k then QB true S else Ok (evT c b ρ S) QB := by simp [evT]
@[simp] theorem ok_tnot {a : T} : Ok (evT c (.not a) ρ S) QB ↔ Ok (evT c a ρ S) fun k S => QB (!k) S := by simp [evT]
@[simp] theorem ok_tcmp {o : Co} {a b : O} : Ok (evT c (.cmp o a b) ρ S) QB ↔ Ok (evO c a ρ S) fun p S => Ok (evO c b ρ S) fun q S => ∃ b, cmpPV o (dr S p) (dr S q) = some b ∧ QB b S := by simp [evT]
@[simp] theorem ok_tchain {o o' : Co} {a b d : O} : Ok (evT c (.chain o o' a b d) ρ S) QB ↔ Ok (evO c a ρ S) fun p S => Ok (evO c b ρ S) fun q S => ∃ k, cmpPV o (dr S p) (dr S q) = some k ∧ if k then Ok (evO c d ρ S) (fun r S => ∃ b, cmpPV o' (dr S q) (dr S r) = some b ∧ QB b S) else QB false S := by
  simp only [evT, ok_bind]
  constructor <;> refine fun h => h.mono fun p S q => q.mono fun p' S q => ?_
  · split at q
    · rename_i e
      refine ⟨true, e, ?_⟩
      simpa using q
    · rename_i e
      exact ⟨false, e, by simpa using q⟩
    · simp at q
  · obtain ⟨k, e, q⟩ := q
    cases k <;> simpa [e] using q
@[simp] theorem ok_ttr {e : O} : Ok (evT c (.tr e) ρ S) QB ↔ Ok (evO c e ρ S) fun p S => ∃ b, truPV (dr S p) = some b ∧ QB b S := by simp [evT]
@[simp] theorem ok_flst {es : List E} : Ok (evF c (.lst es) ρ S) QL ↔ Ok (evEs c es ρ S) fun ps S => ps.length ≤ L ∧ QL ps S := by simp [evF]
@[simp] theorem ok_fcallO {f : Nat} {es : List E} : Ok (evF c (.callO f es) ρ S) QL ↔ Ok (evEs c es ρ S) fun ps S => Ok (c.callO f ps S) QL := by simp [evF]
@[simp] theorem ok_flist {o : O} : Ok (evF c (.list o) ρ S) QL ↔ Ok (evO c o ρ S) fun p S => ∃ xs, listOf (dr S p) = some xs ∧ QL xs S := by simp [evF]
@[simp] theorem ok_fcat {a b : O} : Ok (evF c (.cat a b) ρ S) QL ↔ Ok (evO c a ρ S) fun p S => Ok (evO c b ρ S) fun q S => ∃ xs ys, dr S p = .lst xs ∧ dr S q = .lst ys ∧ xs.length + ys.length ≤ L ∧ QL (xs ++ ys) S := by
  simp only [evF, ok_bind]
  constructor <;> refine fun h => h.mono fun p S q => q.mono fun p' S q => ?_
  · split at q
    · rename_i xs ys e1 e2
      simp at q
      exact ⟨xs, ys, e1, e2, q⟩
    · simp at q
  · obtain ⟨xs, ys, e1, e2, q⟩ := q
    simp [e1, e2, q]
@[simp] theorem ok_fslc {a : O} {lo hi : B} : Ok (evF c (.slc a lo hi) ρ S) QL ↔ Ok (evO c a ρ S) fun p S => Ok (evB c lo ρ S) fun l S => Ok (evB c hi ρ S) fun h S => ∃ xs, dr S p = .lst xs ∧ QL (cutS xs l h) S := by
  simp only [evF, ok_bind]
  constructor <;> refine fun h => h.mono fun p S q => q.mono fun l S q => q.mono fun h S q => ?_
  · split at q
    · rename_i xs e1
      simp at q
      exact ⟨xs, e1, q⟩
    · simp at q
  · obtain ⟨xs, e1, q⟩ := q
    simp [e1, q]
@[simp] theorem ok_flrng {a b : E} : Ok (evF c (.lrng a b) ρ S) QL ↔ Ok (evE c a ρ S) fun p S => Ok (evE c b ρ S) fun q S => ∃ i j : Int, p = .int i ∧ q = .int j ∧ i.natAbs < 2 ^ 62 ∧ j.natAbs < 2 ^ 62 ∧ (j - i).toNat ≤ L ∧ QL (rngI i (j - i).toNat) S := by
  simp only [evF, ok_bind]
  constructor <;> refine fun h => h.mono fun p S q => q.mono fun p' S q => ?_
  · cases p <;> cases p' <;> simp_all
  · obtain ⟨i, j, rfl, rfl, h1, h2, h3, q⟩ := q
    have h3' := Nat.ble_eq_true_of_le h3
    simp only [ok_chk, h3', Bool.and_true, ok_ok]
    simpa using ⟨⟨h1, h2⟩, q⟩
@[simp] theorem ok_fslr {a : O} : Ok (evF c (.slr a) ρ S) QL ↔ Ok (evO c a ρ S) fun p S => ∃ xs, dr S p = .lst xs ∧ QL xs.reverse S := by
  simp only [evF, ok_bind]
  constructor <;> refine fun h => h.mono fun p S q => ?_
  · split at q
    · rename_i xs e1
      simp at q
      exact ⟨xs, e1, q⟩
    · simp at q
  · obtain ⟨xs, e1, q⟩ := q
    simp [e1, q]
@[simp] theorem ok_fsrt {o : O} : Ok (evF c (.srt o) ρ S) QL ↔ Ok (evO c o ρ S) fun p S => ∃ xs, srtPV (dr S p) = some xs ∧ QL xs S := by simp [evF]
@[simp] theorem ok_split {a b : O} : Ok (evF c (.split a b) ρ S) QL ↔ Ok (evO c a ρ S) fun p S => Ok (evO c b ρ S) fun q S => ∃ x y, p = .str x ∧ q = .str y ∧ y ≠ [] ∧ x.length + 2 ≤ L ∧ QL ((PySem.Txt.split (toS x) (toS y)).map fun z => .str z.cps.toList) S := by
  simp only [evF, ok_bind]
  constructor <;> refine fun h => h.mono fun p S q => q.mono fun p' S q => ?_
  · cases p <;> cases p' <;> simp_all
  · obtain ⟨i, j, rfl, rfl, h1, h2, q⟩ := q
    simp [h1, h2, q]
@[simp] theorem ok_frep {f : F} {b : E} : Ok (evF c (.rep f b) ρ S) QL ↔ Ok (evF c f ρ S) fun xs S => Ok (evE c b ρ S) fun q S => ∃ j : Int, q = .int j ∧ j.natAbs < 2 ^ 62 ∧ xs.length * j.toNat ≤ L ∧ QL (List.replicate j.toNat xs).flatten S := by
  simp only [evF, ok_bind]
  constructor <;> refine fun h => h.mono fun p S q => q.mono fun p' S q => ?_
  · cases p' <;> simp_all
  · obtain ⟨j, rfl, h1, h2, q⟩ := q
    have h2' := Nat.ble_eq_true_of_le h2
    simp only [ok_chk, h2', Bool.and_true, ok_ok]
    simpa using ⟨h1, q⟩
@[simp] theorem ok_flc2 {own own1 : List Nat} {t t1 : Tg} {it : I} {it1 : E} {cs cs1 : List T} {e : E} : Ok (evF c (.lc2 own own1 t it cs t1 it1 cs1 e) ρ S) QL ↔ Ok (evI c it ρ S) fun xs S =>
    Ok (lc2L t (fun ρ S => evTs c cs ρ S) (fun ρ S => (evE c it1 ρ S).bind fun p S => .opt S (itemsOf p)) (fun ρ ys acc S => lcL t1 (fun ρ S => evTs c cs1 ρ S) (fun ρ S => evE c e ρ S) (wipeE ρ own1) ys acc S) ((wipeE ρ own).map Slot.mask) xs [] S) QL := by simp [evF]
@[simp] theorem ok_dc {own : List Nat} {t : Tg} {it : I} {cs : List T} {k e : E} : Ok (evE c (.dc own t it cs k e) ρ S) Q ↔ Ok (evI c it ρ S) fun xs S => Ok (dcL t (fun ρ S => evTs c cs ρ S) (fun ρ S => evE c k ρ S) (fun ρ S => evE c e ρ S) (wipeE ρ own) xs [] [] S) fun d S => Q (.dct d.1 d.2) S := by simp [evE]
@[simp] theorem ok_flc {own : List Nat} {t : Tg} {it : I} {cs : List T} {e : E} : Ok (evF c (.lc own t it cs e) ρ S) QL ↔ Ok (evI c it ρ S) fun xs S => Ok (lcL t (fun ρ S => evTs c cs ρ S) (fun ρ S => evE c e ρ S) (wipeE ρ own) xs [] S) QL := by simp [evF]
@[simp] theorem ok_tnil : Ok (evTs c [] ρ S) QB ↔ QB true S := by simp [evTs]
@[simp] theorem ok_tcons {t : T} {r : List T} : Ok (evTs c (t :: r) ρ S) QB ↔ Ok (evT c t ρ S) fun k S => if k then Ok (evTs c r ρ S) QB else QB false S := by simp [evTs]
@[simp] theorem ok_isq {o : O} : Ok (evI c (.sq o) ρ S) QL ↔ Ok (evO c o ρ S) fun p S => ∃ xs, itemsX o p = some xs ∧ QL xs S := by simp [evI]
@[simp] theorem itemsX_t {o : O} {xs : List PV} : itemsX o (.tup xs) = some xs := by cases o <;> rfl
@[simp] theorem itemsX_l {o : O} {xs : List PV} : itemsX o (.lst xs) = some xs := by cases o <;> rfl
@[simp] theorem itemsX_s {o : O} {x : Sg} : itemsX o (.str x) = some (x.map fun c => .str [c]) := by cases o <;> rfl
@[simp] theorem itemsX_d {e : E} {ks : List Ky} {vs : List PV} : itemsX (.e e) (.dct ks vs) = some (ks.map kyP) := rfl
@[simp] theorem ok_irng {a : E} : Ok (evI c (.rng a) ρ S) QL ↔ Ok (evE c a ρ S) fun p S => ∃ j : Int, p = .int j ∧ j.natAbs < 2 ^ 62 ∧ QL (rngI 0 j.toNat) S := by
  simp only [evI, ok_bind]
  constructor <;> refine fun h => h.mono fun p S q => ?_
  · cases p <;> simp_all
  · obtain ⟨i, rfl, h1, q⟩ := q; simpa using ⟨h1, q⟩
@[simp] theorem ok_irng2 {a b : E} : Ok (evI c (.rng2 a b) ρ S) QL ↔ Ok (evE c a ρ S) fun p S => Ok (evE c b ρ S) fun q S => ∃ i j : Int, p = .int i ∧ q = .int j ∧ i.natAbs < 2 ^ 62 ∧ j.natAbs < 2 ^ 62 ∧ QL (rngI i (j - i).toNat) S := by
  simp only [evI, ok_bind]
  constructor <;> refine fun h => h.mono fun p S q => q.mono fun p' S q => ?_
  · cases p <;> cases p' <;> simp_all
  · obtain ⟨i, j, rfl, rfl, h1, h2, q⟩ := q; simpa using ⟨⟨h1, h2⟩, q⟩
@[simp] theorem ok_ienum {o : O} : Ok (evI c (.enum o) ρ S) QL ↔ Ok (evO c o ρ S) fun p S => ∃ xs, (p = .lst xs ∨ p = .tup xs) ∧ QL (enumI 0 xs) S := by
  simp only [evI, ok_bind]
  constructor <;> refine fun h => h.mono fun p S q => ?_
  · cases p <;> simp at q
    · exact ⟨_, .inr rfl, q⟩
    · exact ⟨_, .inl rfl, q⟩
  · obtain ⟨xs, rfl | rfl, q⟩ := q <;> simpa using q
/-! statements -/
@[simp] theorem ok_set {t : Tg} {e : E} : Ok (evS c (.set t e) ρ S) QF ↔ Ok (evE c e ρ S) fun p S => ∃ ρ', asg t p ρ = some ρ' ∧ QF (.nx ρ') S := by
  simp only [evS, ok_bind]
  constructor <;> refine fun h => h.mono fun p S q => ?_
  · split at q <;> simp_all
  · obtain ⟨b, e, q⟩ := q; simp [e, q]
@[simp] theorem ok_setO {i : Nat} {f : F} : Ok (evS c (.setO i f) ρ S) QF ↔ Ok (evF c f ρ S) fun xs S => QF (.nx (ρ.set i (.own xs))) S := by simp [evS]
@[simp] theorem ok_par {i j : Nat} {a b : EF} : Ok (evS c (.par i a j b) ρ S) QF ↔ Ok (evEF c a ρ S) fun x S => Ok (evEF c b ρ S) fun y S => QF (.nx ((ρ.set i x).set j y)) S := by simp [evS]
@[simp] theorem ok_efe {e : E} {Q : Slot → Sto → Prop} : Ok (evEF c (.e e) ρ S) Q ↔ Ok (evE c e ρ S) fun p S => Q (.val p) S := by simp [evEF]
@[simp] theorem ok_efd {Q : Slot → Sto → Prop} : Ok (evEF c .d ρ S) Q ↔ Q (.dwn [] []) S := by simp [evEF]
@[simp] theorem ok_eff {e : F} {Q : Slot → Sto → Prop} : Ok (evEF c (.f e) ρ S) Q ↔ Ok (evF c e ρ S) fun p S => Q (.own p) S := by simp [evEF]
@[simp] theorem ok_setx {o k v : E} : Ok (evS c (.setx o k v) ρ S) QF ↔ Ok (evE c v ρ S) fun p S => Ok (evE c o ρ S) fun q S => Ok (evE c k ρ S) fun r S => ∃ n i xs j, q = .ref n ∧ r = .int i ∧ S[n]? = some (.lst xs) ∧ ixOf xs.length i = some j ∧ QF (.nx ρ) (S.set n (.lst (xs.set j p))) := by
  simp only [evS, ok_bind]
  constructor <;> refine fun h => h.mono fun p S q => q.mono fun p' S q => q.mono fun r S q => ?_
  · split at q
    · rename_i n i _
      split at q
      · rename_i xs e1
        split at q
        · rename_i j e2
          simp at q
          exact ⟨n, i, xs, j, rfl, rfl, e1, e2, q⟩
        · simp at q
      · simp at q
    · simp at q
  · obtain ⟨n, i, xs, j, rfl, rfl, e1, e2, q⟩ := q
    simp [e1, e2, q]
@[simp] theorem ok_setxo {i : Nat} {k v : E} : Ok (evS c (.setxo i k v) ρ S) QF ↔ ∃ xs, ρ[i]? = some (.own xs) ∧ Ok (evE c v ρ S) fun p S => Ok (evE c k ρ S) fun r S => ∃ (j : Int) (m : Nat), r = .int j ∧ ixOf xs.length j = some m ∧ QF (.nx (ρ.set i (.own (xs.set m p)))) S := by
  simp only [evS]
  split
  · rename_i xs e
    simp only [e, ok_bind, Option.some.injEq, Slot.hold.injEq, MO.lst.injEq, exists_eq_left']
    constructor <;> refine fun h => h.mono fun p S q => q.mono fun r S q => ?_
    · split at q
      · split at q
        · rename_i j m hm
          simp at q
          exact ⟨_, _, rfl, hm, q⟩
        · simp at q
      · simp at q
    · obtain ⟨j, m, rfl, hm, q⟩ := q
      simp [hm, q]
  · rename_i h; simp; intro p e; exact absurd e (h p)
@[simp] theorem ok_newD {i : Nat} : Ok (evS c (.newD i) ρ S) QF ↔ QF (.nx (ρ.set i (.dwn [] []))) S := by simp [evS]
@[simp] theorem ok_putD {i : Nat} {k v : E} : Ok (evS c (.putD i k v) ρ S) QF ↔ ∃ ks vs, ρ[i]? = some (.dwn ks vs) ∧ Ok (evE c v ρ S) fun p S => Ok (evE c k ρ S) fun r S => ∃ k, kyOf r = some k ∧ ks.length < L ∧ QF (.nx (ρ.set i (.dwn (putKy k p (ks, vs)).1 (putKy k p (ks, vs)).2))) S := by
  simp only [evS]
  split
  · rename_i ks vs e
    simp only [e, ok_bind, Option.some.injEq, Slot.hold.injEq, MO.dct.injEq]
    constructor
    · refine fun h => ⟨ks, vs, ⟨rfl, rfl⟩, h.mono fun p S q => q.mono fun r S q => ?_⟩
      split at q
      · rename_i k hk
        simp at q
        exact ⟨k, hk, q⟩
      · simp at q
    · rintro ⟨_, _, ⟨rfl, rfl⟩, h⟩
      refine h.mono fun p S q => q.mono fun r S q => ?_
      obtain ⟨k, hk, q⟩ := q
      simp [hk, q]
  · rename_i h; simp; intro p q e; exact absurd e (h p q)
@[simp] theorem ok_par3 {i j l : Nat} {a b d : E} : Ok (evS c (.par3 i a j b l d) ρ S) QF ↔ Ok (evE c a ρ S) fun x S => Ok (evE c b ρ S) fun y S => Ok (evE c d ρ S) fun z S => QF (.nx (((ρ.set i (.val x)).set j (.val y)).set l (.val z))) S := by simp [evS]
@[simp] theorem ok_ex {e : E} : Ok (evS c (.ex e) ρ S) QF ↔ Ok (evE c e ρ S) fun _ S => QF (.nx ρ) S := by simp [evS]
@[simp] theorem ok_app {i : Nat} {e : E} : Ok (evS c (.app i e) ρ S) QF ↔ ∃ xs, ρ[i]? = some (.own xs) ∧ Ok (evE c e ρ S) fun p S => xs.length < L ∧ QF (.nx (ρ.set i (.own (xs ++ [p])))) S := by
  simp only [evS]
  split
  · rename_i p e; simp [e]
  · rename_i h; simp; intro p e; exact absurd e (h p)
@[simp] theorem ok_appr {o e : E} : Ok (evS c (.appr o e) ρ S) QF ↔ Ok (evE c o ρ S) fun q S => ∃ n ys, q = .ref n ∧ S[n]? = some (.lst ys) ∧ Ok (evE c e ρ S) fun p S => ∃ xs, S[n]? = some (.lst xs) ∧ xs.length < L ∧ QF (.nx ρ) (S.set n (.lst (xs ++ [p]))) := by
  simp only [evS, ok_bind]
  constructor <;> refine fun h => h.mono fun p S q => ?_
  · split at q
    · rename_i n
      split at q
      · rename_i xs e1
        simp only [ok_bind] at q
        refine ⟨n, xs, rfl, e1, q.mono fun p S q => ?_⟩
        split at q
        · rename_i ys e2
          simp at q
          exact ⟨ys, e2, q⟩
        · simp at q
      · simp at q
    · simp at q
  · obtain ⟨n, ys, rfl, e1, q⟩ := q
    simp only [e1, ok_bind]
    refine q.mono fun p S q => ?_
    obtain ⟨xs, e2, q⟩ := q
    simp [e2, q]
@[simp] theorem ok_frz {i : Nat} : Ok (evS c (.frz i) ρ S) QF ↔ ∃ m, ρ[i]? = some (.hold m) ∧ ∃ p, m.pv = some p ∧ QF (.nx (ρ.set i (.val p))) S := by
  simp only [evS]
  split
  · rename_i p e; simp [e]
  · rename_i p e; simp [e]
  · rename_i h1 h2; simp; intro m e p hp; cases m <;> first | exact absurd e (h1 _) | exact absurd e (h2 _ _) | simp at hp
@[simp] theorem ok_iteS {t : T} {a b : List Mn.S} : Ok (evS c (.ite t a b) ρ S) QF ↔ Ok (evT c t ρ S) fun k S => if k then Ok (evSs c a ρ S) QF else Ok (evSs c b ρ S) QF := by simp [evS]
@[simp] theorem ok_whl {t : T} {b : List Mn.S} : Ok (evS c (.whl t b) ρ S) QF ↔ Ok (whlL (fun ρ S => evT c t ρ S) (fun ρ S => evSs c b ρ S) c.w ρ S) QF := by simp [evS]
@[simp] theorem ok_for {t : Tg} {it : I} {b : List Mn.S} : Ok (evS c (.for t it b) ρ S) QF ↔ Ok (evI c it (ρ.map Slot.mask) S) fun xs S => Ok (forL t (fun ρ S => evSs c b ρ S) xs ρ S) QF := by simp [evS]
@[simp] theorem ok_ret {e : E} : Ok (evS c (.ret e) ρ S) QF ↔ Ok (evE c e ρ S) fun p S => QF (.rt p) S := by simp [evS]
/-- how an own thing is returned -/
def MO.fl : MO → Option Fl
  | .lst xs => some (.ro xs)
  | .dct ks vs => some (.rt (.dct ks vs))
  | .dead => none
@[simp] theorem fl_lst {xs : List PV} : MO.fl (.lst xs) = some (.ro xs) := rfl
@[simp] theorem fl_dct {ks : List Ky} {xs : List PV} : MO.fl (.dct ks xs) = some (.rt (.dct ks xs)) := rfl
@[simp] theorem fl_dead : MO.fl .dead = none := rfl
@[simp] theorem ok_retO {i : Nat} : Ok (evS c (.retO i) ρ S) QF ↔ ∃ m, ρ[i]? = some (.hold m) ∧ ∃ p, m.fl = some p ∧ QF p S := by
  simp only [evS]
  split
  · rename_i p e; simp [e]
  · rename_i p e; simp [e]
  · rename_i h1 h2; simp; intro m e p hp; cases m <;> first | exact absurd e (h1 _) | exact absurd e (h2 _ _) | simp at hp
@[simp] theorem ok_retN : Ok (evS c .retN ρ S) QF ↔ QF (.rt .non) S := by simp [evS]
@[simp] theorem ok_brk : Ok (evS c .brk ρ S) QF ↔ QF (.bk ρ) S := by simp [evS]
@[simp] theorem ok_cont : Ok (evS c .cont ρ S) QF ↔ QF (.ct ρ) S := by simp [evS]
@[simp] theorem ok_pass : Ok (evS c .pass ρ S) QF ↔ QF (.nx ρ) S := by simp [evS]
/-- what is wanted behind a statement -/
def sq (c : Ct) (r : List Mn.S) (Q : Fl → Sto → Prop) : Fl → Sto → Prop
  | .nx ρ, S => Ok (evSs c r ρ S) Q
  | f, S => Q f S
@[simp] theorem sq_nx {r : List Mn.S} : sq c r QF (.nx ρ) S = Ok (evSs c r ρ S) QF := rfl
@[simp] theorem sq_rt {r : List Mn.S} {p : PV} : sq c r QF (.rt p) S = QF (.rt p) S := rfl
@[simp] theorem sq_ro {r : List Mn.S} {p : List PV} : sq c r QF (.ro p) S = QF (.ro p) S := rfl
@[simp] theorem sq_bk {r : List Mn.S} : sq c r QF (.bk ρ) S = QF (.bk ρ) S := rfl
@[simp] theorem sq_ct {r : List Mn.S} : sq c r QF (.ct ρ) S = QF (.ct ρ) S := rfl
@[simp] theorem ok_snil : Ok (evSs c [] ρ S) QF ↔ QF (.nx ρ) S := by simp [evSs]
@[simp] theorem ok_scons {s : Mn.S} {r : List Mn.S} : Ok (evSs c (s :: r) ρ S) QF ↔ Ok (evS c s ρ S) (sq c r QF) := by
  simp only [evSs, ok_bind]
  constructor <;> refine fun h => h.mono fun f S q => ?_
  · cases f <;> simpa using q
  · cases f <;> simpa using q
/-- behind a def's body -/
def lf (Q : PV → Sto → Prop) : Fl → Sto → Prop
  | .rt p, S => Q p S
  | .ro xs, S => Q (.lst xs) S
  | .nx _, S => Q .non S
  | _, _ => False
/-- .. where the list is the caller's alone -/
def lo (Q : List PV → Sto → Prop) : Fl → Sto → Prop
  | .ro xs, S => Q xs S
  | _, _ => False
@[simp] theorem lo_ro {p : List PV} : lo QL (.ro p) S = QL p S := rfl
@[simp] theorem lf_ro {p : List PV} : lf Q (.ro p) S = Q (.lst p) S := rfl
@[simp] theorem lf_rt {p : PV} : lf Q (.rt p) S = Q p S := rfl
@[simp] theorem lf_nx : lf Q (.nx ρ) S = Q .non S := rfl
theorem ok_call {fns : List Fn} {cs : List PV} {w n f : Nat} {ps : List PV} {d : Fn} (h : fns[f]? = some d) (hl : ps.length = d.np) (k : Ok (evSs (ctx fns cs w n) d.body (enter d ps) S) (lf Q)) : Ok (callN fns cs w (n + 1) f ps S) Q := by
  obtain ⟨fl, S', e, q⟩ := k
  unfold callN
  rw [callR_succ h, e, hl, Nat.beq_refl]
  cases fl with
  | rt p => exact ok_ok.mpr q
  | ro p => exact ok_ok.mpr q
  | nx ρ => exact ok_ok.mpr q
  | bk ρ => exact False.elim q
  | ct ρ => exact False.elim q
theorem ok_callO {fns : List Fn} {cs : List PV} {w n f : Nat} {ps : List PV} {d : Fn} (h : fns[f]? = some d) (hl : ps.length = d.np) (k : Ok (evSs (ctx fns cs w n) d.body (enter d ps) S) (lo QL)) : Ok (callO fns cs w (n + 1) f ps S) QL := by
  obtain ⟨fl, S', e, q⟩ := k
  unfold callO
  rw [callR_succ h, e, hl, Nat.beq_refl]
  cases fl with
  | ro p => exact ok_ok.mpr q
  | rt p => exact False.elim q
  | nx ρ => exact False.elim q
  | bk ρ => exact False.elim q
  | ct ρ => exact False.elim q
end
/-! ### loops -/
theorem ok_lcL {t : Tg} {tt : Env → Sto → Res Bool} {te : Env → Sto → Res PV} {ρ : Env} {Q : List PV → Sto → Prop} (Inv : List PV → List PV → Sto → Prop)
    (step : ∀ x r acc S, Inv (x :: r) acc S → ∃ ρ', asg t x ρ = some ρ' ∧ Ok (tt ρ' S) fun b S => if b then Ok (te ρ' S) fun y S => acc.length < L ∧ Inv r (acc ++ [y]) S else Inv r acc S)
    (fin : ∀ acc S, Inv [] acc S → Q acc S) : ∀ {xs acc S}, Inv xs acc S → Ok (lcL t tt te ρ xs acc S) Q
  | [], acc, S, h => by simpa [lcL] using fin acc S h
  | x :: r, acc, S, h => by
    obtain ⟨ρ', e, k⟩ := step x r acc S h
    simp only [lcL, e, ok_bind]
    refine k.mono fun b S q => ?_
    cases b with
    | false => simpa using ok_lcL Inv step fin (by simpa using q)
    | true =>
      simp only [if_true, ok_bind] at q ⊢
      refine q.mono fun y S q => ?_
      simp only [ok_chk]
      exact ⟨by simpa using q.1, ok_lcL Inv step fin q.2⟩
theorem ok_lc2L {t : Tg} {tt : Env → Sto → Res Bool} {wi : Env → Sto → Res (List PV)} {inn : Env → List PV → List PV → Sto → Res (List PV)} {ρ : Env} {Q : List PV → Sto → Prop} (Inv : List PV → List PV → Sto → Prop)
    (step : ∀ x r acc S, Inv (x :: r) acc S → ∃ ρ', asg t x ρ = some ρ' ∧ Ok (tt ρ' S) fun b S => if b then Ok (wi ρ' S) fun ys S => Ok (inn ρ' ys acc S) fun acc S => Inv r acc S else Inv r acc S)
    (fin : ∀ acc S, Inv [] acc S → Q acc S) : ∀ {xs acc S}, Inv xs acc S → Ok (lc2L t tt wi inn ρ xs acc S) Q
  | [], acc, S, h => by simpa [lc2L] using fin acc S h
  | x :: r, acc, S, h => by
    obtain ⟨ρ', e, k⟩ := step x r acc S h
    simp only [lc2L, e, ok_bind]
    refine k.mono fun b S q => ?_
    cases b with
    | false => simpa using ok_lc2L Inv step fin (by simpa using q)
    | true =>
      simp only [if_true, ok_bind] at q ⊢
      exact q.mono fun y S q => q.mono fun acc S q => ok_lc2L Inv step fin q
theorem ok_forL {t : Tg} {b : Env → Sto → Res Fl} {Q : Fl → Sto → Prop} (Inv : List PV → Env → Sto → Prop)
    (step : ∀ x r ρ S, Inv (x :: r) ρ S → ∃ ρ', asg t x ρ = some ρ' ∧ Ok (b ρ' S) fun f S => match f with
      | .nx ρ => Inv r ρ S
      | .ct ρ => Inv r ρ S
      | .bk ρ => Q (.nx ρ) S
      | .rt p => Q (.rt p) S
      | .ro p => Q (.ro p) S)
    (fin : ∀ ρ S, Inv [] ρ S → Q (.nx ρ) S) : ∀ {xs ρ S}, Inv xs ρ S → Ok (forL t b xs ρ S) Q
  | [], ρ, S, h => by simpa [forL] using fin ρ S h
  | x :: r, ρ, S, h => by
    obtain ⟨ρ', e, k⟩ := step x r ρ S h
    simp only [forL, e, ok_bind]
    refine k.mono fun f S q => ?_
    cases f with
    | nx ρ => exact ok_forL Inv step fin q
    | ct ρ => exact ok_forL Inv step fin q
    | bk ρ => simpa using q
    | rt p => simpa using q
    | ro p => simpa using q
theorem ok_whlL {t : Env → Sto → Res Bool} {b : Env → Sto → Res Fl} {Q : Fl → Sto → Prop} (Inv : Nat → Env → Sto → Prop)
    (step : ∀ m ρ S, Inv m ρ S → Ok (t ρ S) fun k S => if k then 0 < m ∧ Ok (b ρ S) (fun f S => match f with
      | .nx ρ => ∃ m', m' < m ∧ Inv m' ρ S
      | .ct ρ => ∃ m', m' < m ∧ Inv m' ρ S
      | .bk ρ => Q (.nx ρ) S
      | .rt p => Q (.rt p) S
      | .ro p => Q (.ro p) S) else Q (.nx ρ) S) : ∀ {n m ρ S}, m < n → Inv m ρ S → Ok (whlL t b n ρ S) Q
  | 0, m, ρ, S, hl, h => absurd hl (Nat.not_lt_zero _)
  | n + 1, m, ρ, S, hl, h => by
    simp only [whlL, ok_bind]
    refine (step m ρ S h).mono fun k S q => ?_
    cases k with
    | false => simpa using q
    | true =>
      simp only [if_true, ok_bind] at q ⊢
      obtain ⟨_, q⟩ := q
      refine q.mono fun f S q => ?_
      cases f with
      | nx ρ => obtain ⟨m', h1, h2⟩ := q; exact ok_whlL Inv step (by omega) h2
      | ct ρ => obtain ⟨m', h1, h2⟩ := q; exact ok_whlL Inv step (by omega) h2
      | bk ρ => simpa using q
      | rt p => simpa using q
      | ro p => simpa using q
end Mn
end

section
set_option linter.all false
set_option autoImplicit false
set_option maxRecDepth 100000
/-! MnLaw: the defs that all laws have. -/
namespace Mn
def rollFn : Fn := ⟨2, 4, [
  (.ite (.cmp .gt (.e (.ix (.e (.v 0)) (.int 0))) (.e (.int 0))) [(.set (.nm 2) (.bin .mod (.e (.blt .int [(.e (.ix (.e (.v 0)) (.int 0)))])) (.e (.v 1)))), (.setx (.v 0) (.int 0) (.bin .fdiv (.e (.ix (.e (.v 0)) (.int 0))) (.e (.v 1)))), (.ret (.v 2))] []),
  (.setx (.v 0) (.int 1) (.bin .mod (.e (.blt .int [(.e (.bin .add (.e (.bin .mul (.e (.ix (.e (.v 0)) (.int 1))) (.e (.int 31051)))) (.e (.int 7993))))])) (.e (.int 2147483543)))),
  (.set (.nm 3) (.bin .mod (.e (.blt .int [(.e (.bin .mul (.e (.ix (.e (.v 0)) (.int 1))) (.e (.bin .add (.e (.ix (.e (.v 0)) (.int 1))) (.e (.int 229))))))])) (.e (.int 2147483587)))),
  (.ret (.bin .mod (.e (.blt .int [(.e (.bin .fdiv (.e (.v 3)) (.e (.int 821))))])) (.e (.v 1))))]⟩
def cupFn : Fn := ⟨1, 2, [
  (.set (.nm 1) (.blt .abs [(.e (.ix (.e (.fr (.cat (.e (.fr (.list (.e (.v 0))))) (.e (.fr (.lst [(.int 0)])))))) (.int 0)))])),
  (.ret (.new (.lst [(.ife (.cmp .ge (.e (.v 1)) (.e (.bin .pow (.e (.int 10)) (.e (.int 18))))) (.bin .fdiv (.e (.v 1)) (.e (.int 67))) (.int 0)), (.bin .add (.e (.bin .mod (.e (.blt .int [(.e (.bin .add (.e (.bin .mul (.e (.v 1)) (.e (.int 277)))) (.e (.int 2609))))])) (.e (.int 2077503167)))) (.e (.int 163)))])))]⟩
def someFn (r : Nat) : Fn := ⟨2, 2, [
  (.ret (.ix (.e (.v 1)) (.call r [(.v 0), (.blt .len [(.e (.v 1))])])))]⟩
def sameFn (s : Nat) : Fn := ⟨2, 4, [
  (.ite (.tr (.e (.isi (.v 1) .tuple))) [(.set (.nm 2) (.and (.isi (.v 0) .tuple) (.cmp .eq (.e (.blt .len [(.e (.v 0))])) (.e (.blt .len [(.e (.v 1))]))))), (.ret (.and (.v 2) (.cmp .eq (.e (.fr (.lc [3] (.nm 3) (.rng (.blt .len [(.e (.v 1))])) [(.not (.tr (.e (.call s [(.ix (.e (.v 0)) (.v 3)), (.ix (.e (.v 1)) (.v 3))]))))] (.v 3)))) (.e (.fr (.lst []))))))] []),
  (.ite (.or (.cmp .is (.e (.v 1)) (.e .non)) (.cmp .ne (.e (.isi (.v 0) .bool)) (.e (.isi (.v 1) .bool)))) [(.ret (.and (.cmp .is (.e (.v 0)) (.e .non)) (.cmp .is (.e (.v 1)) (.e .non))))] []),
  (.ret (.and (.cmp .eq (.e (.isi (.v 0) .str)) (.e (.isi (.v 1) .str))) (.and (.cmp .eq (.e (.isi (.v 0) .int)) (.e (.isi (.v 1) .int))) (.cmp .eq (.e (.v 0)) (.e (.v 1))))))]⟩

/-- the cup stands at the store's begin -/
def Cup (S : Sto) : Prop := ∃ a b : Int, S[0]? = some (.lst [.int a, .int b]) ∧ 0 ≤ a ∧ 0 ≤ b ∧ b < 4294967296
def Later (S S' : Sto) : Prop := S'.length = S.length ∧ ∀ j : Nat, j ≠ 0 → S'[j]? = S[j]?
theorem Later.refl (S : Sto) : Later S S := ⟨rfl, fun _ _ => rfl⟩
theorem Later.trans {S S1 S2 : Sto} (a : Later S S1) (b : Later S1 S2) : Later S S2 := ⟨b.1.trans a.1, fun j h => (b.2 j h).trans (a.2 j h)⟩
theorem later_set {S : Sto} {m : MO} : Later S (S.set 0 m) := ⟨by simp, fun j h => by rw [List.getElem?_set_ne (Ne.symm h)]⟩
@[simp] theorem dr_int {S : Sto} {i : Int} : dr S (.int i) = .int i := rfl
@[simp] theorem dr_bl {S : Sto} {i : Bool} : dr S (.bl i) = .bl i := rfl
@[simp] theorem dr_str {S : Sto} {i : Sg} : dr S (.str i) = .str i := rfl
@[simp] theorem dr_tupq {S : Sto} {i : List PV} : dr S (.tup i) = .tup i := rfl
@[simp] theorem dr_lst {S : Sto} {i : List PV} : dr S (.lst i) = .lst i := rfl
@[simp] theorem dr_non {S : Sto} : dr S .non = .non := rfl
@[simp] theorem bin_add {i j : Int} : binPV .add (.int i) (.int j) = some (.int (i + j)) := rfl
@[simp] theorem bin_sub {i j : Int} : binPV .sub (.int i) (.int j) = some (.int (i - j)) := rfl
@[simp] theorem gt_int {i j : Int} : cmpPV .gt (.int i) (.int j) = some (decide (j < i)) := rfl
@[simp] theorem lt_int {i j : Int} : cmpPV .lt (.int i) (.int j) = some (decide (i < j)) := rfl
@[simp] theorem ge_int {i j : Int} : cmpPV .ge (.int i) (.int j) = some (decide (j ≤ i)) := rfl
@[simp] theorem le_int {i j : Int} : cmpPV .le (.int i) (.int j) = some (decide (i ≤ j)) := rfl
@[simp] theorem eq_int {i j : Int} : cmpPV .eq (.int i) (.int j) = some (i == j) := rfl
@[simp] theorem ne_int {i j : Int} : cmpPV .ne (.int i) (.int j) = some (!(i == j)) := rfl
@[simp] theorem blt_int {i : Int} : bltPV .int [.int i] = some (.int i) := rfl
@[simp] theorem blt_abs {i : Int} : bltPV .abs [.int i] = some (.int (if i < 0 then -i else i)) := rfl
@[simp] theorem blt_lent {x : List PV} : bltPV .len [.tup x] = some (.int x.length) := rfl
@[simp] theorem blt_lenl {x : List PV} : bltPV .len [.lst x] = some (.int x.length) := rfl
@[simp] theorem blt_tupl {x : List PV} : bltPV .tuple [.lst x] = some (.tup x) := rfl
@[simp] theorem blt_tupt {x : List PV} : bltPV .tuple [.tup x] = some (.tup x) := rfl
theorem at_nat {α : Type} {xs : List α} {k : Nat} : atPV xs (k : Int) = xs[k]? := by
  unfold atPV ixOf
  by_cases h : k < xs.length
  · have : ((k : Int) < (xs.length : Int)) := by omega
    simp [this]
  · have : ¬ ((k : Int) < (xs.length : Int)) := by omega
    simp [this]
    omega
@[simp] theorem at_0 {α : Type} {xs : List α} : atPV xs 0 = xs[0]? := at_nat (k := 0)
@[simp] theorem at_1 {α : Type} {xs : List α} : atPV xs 1 = xs[1]? := at_nat (k := 1)
@[simp] theorem at_2 {α : Type} {xs : List α} : atPV xs 2 = xs[2]? := at_nat (k := 2)
@[simp] theorem at_3 {α : Type} {xs : List α} : atPV xs 3 = xs[3]? := at_nat (k := 3)
@[simp] theorem ix_t {xs : List PV} {i : Int} : ixPV (.tup xs) (.int i) = atPV xs i := rfl
@[simp] theorem ix_l {xs : List PV} {i : Int} : ixPV (.lst xs) (.int i) = atPV xs i := rfl

@[simp] theorem bin_mul {i j : Int} : binPV .mul (.int i) (.int j) = if (sml i || (sml j || (wid i && wid j))) = true then some (.int (i * j)) else none := rfl
@[simp] theorem bin_mod {i j : Int} : binPV .mod (.int i) (.int j) = if j ≠ 0 then some (.int (i.fmod j)) else none := rfl
@[simp] theorem bin_fdiv {i j : Int} : binPV .fdiv (.int i) (.int j) = if j ≠ 0 ∧ j.natAbs < 2 ^ 200 then some (.int (i.fdiv j)) else none := rfl
@[simp] theorem asg_nm {i : Nat} {p : PV} {ρ : Env} : asg (.nm i) p ρ = some (ρ.set i (.val p)) := rfl
@[simp] theorem asg_2 {i j : Nat} {p q : PV} {ρ : Env} : asg (.tp [.nm i, .nm j]) (.tup [p, q]) ρ = some ((ρ.set i (.val p)).set j (.val q)) := rfl
@[simp] theorem asg_3 {i j k : Nat} {p q r : PV} {ρ : Env} : asg (.tp [.nm i, .nm j, .nm k]) (.tup [p, q, r]) ρ = some (((ρ.set i (.val p)).set j (.val q)).set k (.val r)) := rfl
@[simp] theorem asg_2l {i j : Nat} {p q : PV} {ρ : Env} : asg (.tp [.nm i, .nm j]) (.lst [p, q]) ρ = some ((ρ.set i (.val p)).set j (.val q)) := rfl
@[simp] theorem asg_3l {i j k : Nat} {p q r : PV} {ρ : Env} : asg (.tp [.nm i, .nm j, .nm k]) (.lst [p, q, r]) ρ = some (((ρ.set i (.val p)).set j (.val q)).set k (.val r)) := rfl
@[simp] theorem asg_4 {i j k l : Nat} {p q r s : PV} {ρ : Env} : asg (.tp [.nm i, .nm j, .nm k, .nm l]) (.tup [p, q, r, s]) ρ = some ((((ρ.set i (.val p)).set j (.val q)).set k (.val r)).set l (.val s)) := rfl
@[simp] theorem tru_blq {b : Bool} : truPV (.bl b) = some b := rfl
@[simp] theorem tru_int {b : Int} : truPV (.int b) = some (!(b == 0)) := rfl
@[simp] theorem tru_tup {b : List PV} : truPV (.tup b) = some (!b.isEmpty) := rfl
@[simp] theorem tru_lst {b : List PV} : truPV (.lst b) = some (!b.isEmpty) := rfl
@[simp] theorem tru_non : truPV .non = some false := rfl
@[simp] theorem eq_bl {i j : Bool} : cmpPV .eq (.bl i) (.bl j) = some (i == j) := rfl
@[simp] theorem ne_bl {i j : Bool} : cmpPV .ne (.bl i) (.bl j) = some (!(i == j)) := rfl
@[simp] theorem is_nn : cmpPV .is .non .non = some true := rfl
@[simp] theorem is_in {i : Int} : cmpPV .is (.int i) .non = some false := rfl
@[simp] theorem is_bn {i : Bool} : cmpPV .is (.bl i) .non = some false := rfl
@[simp] theorem is_sn {i : Sg} : cmpPV .is (.str i) .non = some false := rfl
@[simp] theorem is_tn {i : List PV} : cmpPV .is (.tup i) .non = some false := rfl
@[simp] theorem is_ln {i : List PV} : cmpPV .is (.lst i) .non = some false := rfl
@[simp] theorem eq_nil : cmpPV .eq (.lst []) (.lst []) = some true := rfl
@[simp] theorem ixOf_20 : ixOf 2 0 = some 0 := rfl
@[simp] theorem ixOf_21 : ixOf 2 1 = some 1 := rfl
theorem dr_ref {S : Sto} {n : Nat} {xs : List PV} (h : S[n]? = some (.lst xs)) : dr S (.ref n) = .lst xs := by simp [dr, h]
theorem sml_of {i : Int} (h : i.natAbs < 2 ^ 64) : sml i = true := by simpa [sml] using h
section
variable {fns : List Fn} {cs : List PV} {w n f : Nat} {S : Sto}
theorem roll_ok (h : fns[f]? = some rollFn) (hc : Cup S) {many : Int} (hm : 1 ≤ many) (hM : many < 2 ^ 64) : Ok (callN fns cs w (n + 1) f [.ref 0, .int many] S) fun p S' => ∃ v : Nat, p = .int v ∧ (v : Int) < many ∧ Cup S' ∧ Later S S' := by
  obtain ⟨a, b, e, h1, h2, h3⟩ := hc
  have e0 : 0 < S.length := by
    rcases Nat.eq_zero_or_pos S.length with z | z
    · rw [List.length_eq_zero_iff.mp z] at e; cases e
    · exact z
  have es : ∀ m : MO, (S.set 0 m)[0]? = some m := fun m => by simp [e0]
  have m0 : many ≠ 0 := by omega
  have m1 : many.natAbs < 2 ^ 200 := by omega
  have s1 : sml 31051 = true := by decide
  have nn : ∀ x : Int, ∃ v : Nat, x.fmod many = v ∧ (v : Int) < many := fun x => by
    have g1 := Int.fmod_nonneg_of_pos x (b := many) (by omega)
    have g2 := Int.fmod_lt_of_pos x (b := many) (by omega)
    exact ⟨(x.fmod many).toNat, by omega, by omega⟩
  refine ok_call h rfl ?_
  by_cases ha : 0 < a
  · obtain ⟨v, v1, v2⟩ := nn a
    simp [rollFn, enter, dr_ref e, ha, m0, m1, asg, e]
    refine ⟨v, v1, v2, ⟨a.fdiv many, b, es _, Int.fdiv_nonneg h1 (by omega), h2, h3⟩, later_set⟩
  · obtain ⟨v, v1, v2⟩ := nn ((((b * 31051 + 7993).fmod 2147483543) * ((b * 31051 + 7993).fmod 2147483543 + 229)).fmod 2147483587 |>.fdiv 821)
    have g1 := Int.fmod_nonneg_of_pos (b * 31051 + 7993) (b := 2147483543) (by omega)
    have g2 := Int.fmod_lt_of_pos (b * 31051 + 7993) (b := 2147483543) (by omega)
    have s2 : sml ((b * 31051 + 7993).fmod 2147483543) = true := sml_of (by omega)
    simp [rollFn, enter, dr_ref e, ha, m0, m1, asg, e, s1, s2, dr_ref (es _), es]
    exact ⟨v, v1, v2, ⟨a, _, es _, h1, g1, by omega⟩, later_set⟩
theorem some_ok {r : Nat} (h : fns[f]? = some (someFn r)) (hr : fns[r]? = some rollFn) (hc : Cup S) {xs : List PV} {q : PV} (hq : dr S q = .lst xs ∨ dr S q = .tup xs) (hx : xs ≠ []) (hL : xs.length < 2 ^ 64) (h0 : ∀ c, q ≠ .ref c) : Ok (callN fns cs w (n + 2) f [.ref 0, q] S) fun p S' => p ∈ xs ∧ Cup S' ∧ Later S S' := by
  have hl : 1 ≤ (xs.length : Int) := by
    cases xs with
    | nil => exact absurd rfl hx
    | cons a b => simp only [List.length_cons]; omega
  have dq : ∀ S', dr S' q = q := fun S' => by cases q <;> first | rfl | exact absurd rfl (h0 _)
  rw [dq] at hq
  refine ok_call h rfl ?_
  rcases hq with hq | hq <;> subst hq <;> simp [someFn, enter] <;> refine (roll_ok (n := n) hr hc (many := (xs.length : Int)) hl (by omega)).mono fun p S' q => ?_ <;> obtain ⟨v, rfl, h1, h2, h3⟩ := q <;> have hv : v < xs.length := by omega
  all_goals
    simp [at_nat, hv]
    exact ⟨h2, h3⟩
theorem cup_ok (h : fns[f]? = some cupFn) {ns : List Int} (hl : ns.length ≤ 63) : Ok (callN fns cs w (n + 1) f [.lst (ns.map .int)] []) fun p S' => p = .ref 0 ∧ S'.length = 1 ∧ Cup S' := by
  refine ok_call h rfl ?_
  have s1 : sml 277 = true := by decide
  have pw : binPV .pow (.int 10) (.int 18) = some (.int 1000000000000000000) := by rfl
  have key : ∀ z : Int, ∃ x, x = (if z < 0 then -z else z) ∧ 0 ≤ x := fun z => ⟨_, rfl, by split <;> omega⟩
  obtain ⟨z, R, hz⟩ : ∃ (z : Int) (R : List PV), (ns.map PV.int) ++ [PV.int 0] = .int z :: R := by
    cases ns with
    | nil => exact ⟨0, [], rfl⟩
    | cons a r => exact ⟨a, r.map PV.int ++ [PV.int 0], rfl⟩
  obtain ⟨x, hx, h0⟩ := key z
  have g1 := Int.fmod_nonneg_of_pos (x * 277 + 2609) (b := 2077503167) (by omega)
  have g2 := Int.fmod_lt_of_pos (x * 277 + 2609) (b := 2077503167) (by omega)
  simp [cupFn, enter, listOf, L, hz, s1, pw, ← hx]
  refine ⟨by omega, ?_⟩
  by_cases hb : (1000000000000000000 : Int) ≤ x
  · have hb' : ¬ x < 1000000000000000000 := by omega
    simp [hb, hb']
    exact ⟨_, _, rfl, Int.fdiv_nonneg h0 (by omega), by omega, by omega⟩
  · have hb' : x < 1000000000000000000 := by omega
    simp [hb, hb']
    exact ⟨_, _, rfl, by omega, by omega, by omega⟩
end
/-! ### the law's own comparison -/
def Sm : Nat → PV → Prop
  | _, .non => True
  | _, .bl _ => True
  | _, .int _ => True
  | _, .str x => ∀ c ∈ x, c < 55296
  | k + 1, .tup xs => xs.length ≤ L ∧ ∀ x ∈ xs, Sm k x
  | _, _ => False
theorem rngI_mem {x : PV} : ∀ {n : Nat} {lo : Int}, x ∈ rngI lo n → ∃ i : Nat, i < n ∧ x = .int (lo + i)
  | 0, _, h => by cases h
  | n + 1, lo, h => by
    unfold rngI at h
    rcases List.mem_cons.mp h with rfl | h
    · exact ⟨0, by omega, by simp⟩
    · obtain ⟨i, h1, rfl⟩ := rngI_mem h
      exact ⟨i + 1, by omega, by congr 1; omega⟩
theorem sm_base {fns : List Fn} {cs : List PV} {w f n : Nat} {S : Sto} (h : fns[f]? = some (sameFn f)) {p : PV} (ht : ∀ xs, p ≠ .tup xs) {k : Nat} (hp : Sm k p) : Ok (callN fns cs w (n + 1) f [p, p] S) fun r S' => r = .bl true ∧ S' = S := by
  refine ok_call h rfl ?_
  cases p with
  | tup xs => exact absurd rfl (ht xs)
  | lst xs => cases k <;> exact False.elim (by simpa [Sm] using hp)
  | ref xs => cases k <;> exact False.elim (by simpa [Sm] using hp)
  | fn xs => cases k <;> exact False.elim (by simpa [Sm] using hp)
  | dct _ _ => cases k <;> exact False.elim (by simpa [Sm] using hp)
  | non => simp [sameFn, enter, isT]
  | bl b => simp [sameFn, enter, isT]
  | int i => simp [sameFn, enter, isT]
  | str x =>
    have hx : (x.all fun c => Nat.blt c 55296) = true := by
      cases k <;> (simp only [Sm] at hp; simpa using hp)
    have e : cmpPV .eq (.str x) (.str x) = some true := by simp [cmpPV, flat, eqPV, hx]
    simp [sameFn, enter, isT, e]
theorem same_ok {fns : List Fn} {cs : List PV} {w f : Nat} {S : Sto} (h : fns[f]? = some (sameFn f)) : ∀ {k n : Nat} {p : PV}, Sm k p → Ok (callN fns cs w (n + k + 1) f [p, p] S) fun r S' => r = .bl true ∧ S' = S := by
  intro k
  induction k with
  | zero => exact fun {n p} hp => sm_base h (fun xs z => by subst z; exact False.elim (by simpa [Sm] using hp)) hp
  | succ k ih =>
    intro n p hp
    by_cases ht : ∃ xs, p = .tup xs
    · obtain ⟨xs, rfl⟩ := ht
      obtain ⟨hL, hx⟩ := hp
      have hb : xs.length < 4611686018427387904 := by unfold L at hL; omega
      refine ok_call h rfl ?_
      simp [sameFn, enter, isT, wipeE, hb]
      refine ok_lcL (fun r acc S' => (∀ x ∈ r, ∃ i : Nat, x = .int (i : Int) ∧ i < xs.length) ∧ acc = [] ∧ S' = S) (fun x r acc S' q => ?_) (fun acc S' q => ?_) ⟨fun x hx => ?_, rfl, rfl⟩
      · obtain ⟨q1, rfl, rfl⟩ := q
        obtain ⟨i, rfl, hi⟩ := q1 x List.mem_cons_self
        refine ⟨_, rfl, ?_⟩
        simp [at_nat, hi]
        refine (ih (hx _ (List.getElem_mem hi))).mono fun r' S' q => ?_
        obtain ⟨rfl, rfl⟩ := q
        simp
        exact fun x hx => q1 x (List.mem_cons_of_mem _ hx)
      · obtain ⟨_, rfl, rfl⟩ := q
        simp
      · obtain ⟨i, h1, h2⟩ := rngI_mem hx
        exact ⟨i, by simpa using h2, h1⟩
    · exact sm_base h (fun xs z => ht ⟨xs, z⟩) hp
end Mn
end

section
set_option linter.all false
set_option autoImplicit false
set_option maxRecDepth 100000
/-! MnFlt: comprehensions that leave the store. -/
namespace Mn
theorem ok_flt {t : Tg} {tt : Env → Sto → Res Bool} {te : Env → Sto → Res PV} {ρ : Env} {S : Sto} {Q : List PV → Sto → Prop} (b : PV → Bool) (f : PV → PV) {xs : List PV} (hl : xs.length ≤ L)
    (h : ∀ x ∈ xs, ∃ ρ', asg t x ρ = some ρ' ∧ Ok (tt ρ' S) fun k S' => k = b x ∧ S' = S ∧ (k = true → Ok (te ρ' S) fun y S'' => y = f x ∧ S'' = S)) (k : Q ((xs.filter b).map f) S) : Ok (lcL t tt te ρ xs [] S) Q := by
  refine ok_lcL (fun r acc S' => S' = S ∧ (∀ x ∈ r, x ∈ xs) ∧ acc ++ (r.filter b).map f = (xs.filter b).map f ∧ acc.length + r.length ≤ L) (fun x r acc S1 q => ?_) (fun acc S1 q => ?_) ⟨rfl, fun x h => h, rfl, by simpa using hl⟩
  · obtain ⟨rfl, hm, he, hn⟩ := q
    obtain ⟨ρ', e, o⟩ := h x (hm x List.mem_cons_self)
    refine ⟨ρ', e, o.mono fun kk S2 q => ?_⟩
    obtain ⟨rfl, rfl, o2⟩ := q
    simp only [List.length_cons] at hn
    by_cases hb : b x = true
    · rw [if_pos hb]
      refine (o2 hb).mono fun y S3 q => ?_
      obtain ⟨rfl, rfl⟩ := q
      rw [List.filter_cons_of_pos hb] at he
      exact ⟨by omega, rfl, fun z hz => hm z (List.mem_cons_of_mem _ hz), by rw [← he]; simp, by simp; omega⟩
    · rw [if_neg hb]
      rw [List.filter_cons_of_neg hb] at he
      exact ⟨rfl, fun z hz => hm z (List.mem_cons_of_mem _ hz), he, by omega⟩
  · obtain ⟨rfl, _, he, _⟩ := q
    rw [List.filter_nil, List.map_nil, List.append_nil] at he
    rw [he]
    exact k
end Mn
end

section
set_option linter.all false
set_option autoImplicit false
set_option maxRecDepth 100000
/-! MnEq: runs that leave the store, as equations. -/
namespace Mn
theorem Ok.eq {α : Type} {r : Res α} {v : α} {S : Sto} (h : Ok r fun a S' => a = v ∧ S' = S) : r = .ok v S := by
  obtain ⟨a, S', e, rfl, rfl⟩ := h
  exact e
theorem ok_of {α : Type} {r : Res α} {v : α} {S : Sto} {Q : α → Sto → Prop} (e : r = .ok v S) (q : Q v S) : Ok r Q := ⟨v, S, e, q⟩
/-- a comprehension over told things, as a list of what each gives -/
theorem ok_lcm {α : Type} {t : Tg} {tt : Env → Sto → Res Bool} {te : Env → Sto → Res PV} {ρ : Env} {S : Sto} {Q : List PV → Sto → Prop} (g : α → PV) (b : α → Bool) (f : α → PV) {xs : List α} (hl : xs.length ≤ L)
    (h : ∀ x ∈ xs, ∃ ρ', asg t (g x) ρ = some ρ' ∧ Ok (tt ρ' S) fun k S' => k = b x ∧ S' = S ∧ (k = true → Ok (te ρ' S) fun y S'' => y = f x ∧ S'' = S)) (k : Q ((xs.filter b).map f) S) : Ok (lcL t tt te ρ (xs.map g) [] S) Q := by
  refine ok_lcL (fun r acc S' => S' = S ∧ ∃ r0 : List α, r = r0.map g ∧ (∀ x ∈ r0, x ∈ xs) ∧ acc ++ (r0.filter b).map f = (xs.filter b).map f ∧ acc.length + r0.length ≤ L) (fun x r acc S1 q => ?_) (fun acc S1 q => ?_) ⟨rfl, xs, rfl, fun x h => h, rfl, by simpa using hl⟩
  · obtain ⟨rfl, r0, e0, hm, he, hn⟩ := q
    cases r0 with
    | nil => cases e0
    | cons a r0 =>
      simp only [List.map_cons, List.cons.injEq] at e0
      obtain ⟨rfl, rfl⟩ := e0
      obtain ⟨ρ', e, o⟩ := h a (hm a List.mem_cons_self)
      refine ⟨ρ', e, o.mono fun kk S2 q => ?_⟩
      obtain ⟨rfl, rfl, o2⟩ := q
      simp only [List.length_cons] at hn
      by_cases hb : b a = true
      · rw [if_pos hb]
        refine (o2 hb).mono fun y S3 q => ?_
        obtain ⟨rfl, rfl⟩ := q
        rw [List.filter_cons_of_pos hb] at he
        exact ⟨by omega, rfl, r0, rfl, fun z hz => hm z (List.mem_cons_of_mem _ hz), by rw [← he]; simp, by simp; omega⟩
      · rw [if_neg hb]
        rw [List.filter_cons_of_neg hb] at he
        exact ⟨rfl, r0, rfl, fun z hz => hm z (List.mem_cons_of_mem _ hz), he, by omega⟩
  · obtain ⟨rfl, r0, e0, _, he, _⟩ := q
    cases r0 with
    | cons a r => cases e0
    | nil =>
      rw [List.filter_nil, List.map_nil, List.append_nil] at he
      rw [he]
      exact k
/-- .. without a test -/
theorem ok_lcp {α : Type} {t : Tg} {tt : Env → Sto → Res Bool} {te : Env → Sto → Res PV} {ρ : Env} {S : Sto} {Q : List PV → Sto → Prop} (g : α → PV) (f : α → PV) {xs : List α} (hl : xs.length ≤ L)
    (h : ∀ x ∈ xs, ∃ ρ', asg t (g x) ρ = some ρ' ∧ tt ρ' S = .ok true S ∧ Ok (te ρ' S) fun y S'' => y = f x ∧ S'' = S) (k : Q (xs.map f) S) : Ok (lcL t tt te ρ (xs.map g) [] S) Q := by
  refine ok_lcm g (fun _ => true) f hl (fun x hx => ?_) (by rw [List.filter_eq_self.mpr fun _ _ => rfl]; exact k)
  obtain ⟨ρ', e, h1, h2⟩ := h x hx
  exact ⟨ρ', e, ok_of h1 ⟨rfl, rfl, fun _ => h2⟩⟩
/-- a loop over told things that goes on to its end or returns -/
theorem ok_form {α : Type} {t : Tg} {b : Env → Sto → Res Fl} {Q : Fl → Sto → Prop} (g : α → PV) (Inv : List α → Env → Sto → Prop)
    (step : ∀ x r ρ S, Inv (x :: r) ρ S → ∃ ρ', asg t (g x) ρ = some ρ' ∧ Ok (b ρ' S) fun f S => match f with
      | .nx ρ => Inv r ρ S
      | .ct ρ => Inv r ρ S
      | .bk ρ => Q (.nx ρ) S
      | .rt p => Q (.rt p) S
      | .ro p => Q (.ro p) S)
    (fin : ∀ ρ S, Inv [] ρ S → Q (.nx ρ) S) {xs : List α} {ρ : Env} {S : Sto} (h : Inv xs ρ S) : Ok (forL t b (xs.map g) ρ S) Q := by
  refine ok_forL (fun r ρ S => ∃ r0, r = r0.map g ∧ Inv r0 ρ S) (fun x r ρ S q => ?_) (fun ρ S q => ?_) ⟨xs, rfl, h⟩
  · obtain ⟨r0, e0, q⟩ := q
    cases r0 with
    | nil => cases e0
    | cons a r0 =>
      simp only [List.map_cons, List.cons.injEq] at e0
      obtain ⟨rfl, rfl⟩ := e0
      obtain ⟨ρ', e, o⟩ := step a r0 ρ S q
      refine ⟨ρ', e, o.mono fun f S q => ?_⟩
      cases f with
      | nx ρ => exact ⟨_, rfl, q⟩
      | ct ρ => exact ⟨_, rfl, q⟩
      | bk ρ => exact q
      | rt p => exact q
      | ro p => exact q
  · obtain ⟨r0, e0, q⟩ := q
    cases r0 with
    | cons a r => cases e0
    | nil => exact fin ρ S q
/-- told things and their places -/
theorem enumI_map {α : Type} (g : α → PV) : ∀ (xs : List α) (n : Nat), enumI n (xs.map g) = (xs.zipIdx n).map fun p => .tup [.int (p.2 : Int), g p.1]
  | [], _ => rfl
  | x :: r, n => by
    simp only [List.map_cons, enumI, List.zipIdx_cons, enumI_map g r (n + 1)]
theorem rngI_map : ∀ (n lo : Nat), rngI (lo : Int) n = (List.range' lo n).map fun i => .int (i : Int)
  | 0, _ => rfl
  | n + 1, lo => by
    have := rngI_map n (lo + 1)
    simp only [rngI, List.range'_succ, List.map_cons]
    rw [← this]
    rfl
theorem rngI_0 (n : Nat) : rngI 0 n = (List.range n).map fun i => .int (i : Int) := by
  rw [List.range_eq_range']
  exact rngI_map n 0
/-! texts -/
def okS (x : Sg) : Bool := x.all fun c => Nat.blt c 55296
theorem flat_str {x : Sg} (h : okS x = true) (n : Nat) : flat n (.str x) = true := by
  cases n <;> simpa [flat, okS] using h
theorem flats_strs {ns : List Sg} (h : ∀ x ∈ ns, okS x = true) (n : Nat) : flats n (ns.map .str) = true := by
  induction ns with
  | nil => simp [flats]
  | cons a r ih =>
    simp only [List.map_cons, flats, Bool.and_eq_true]
    exact ⟨flat_str (h a List.mem_cons_self) n, ih fun x hx => h x (List.mem_cons_of_mem _ hx)⟩
theorem eqPV_str (x y : Sg) : eqPV (.str x) (.str y) = (x == y) := rfl
theorem in_strs (x : Sg) (ns : List Sg) : inPV (.str x) (ns.map .str) = ns.contains x := by
  unfold inPV
  rw [List.any_map]
  induction ns with
  | nil => rfl
  | cons a r ih =>
    simp only [List.any_cons, List.contains_cons, ih, Function.comp]
    congr 1
    rw [eqPV_str, Bool.eq_iff_iff, beq_iff_eq, beq_iff_eq]
    exact ⟨fun h => h.symm, fun h => h.symm⟩
def fI (x : Sg) : Nat → List Sg → Option Nat
  | _, [] => none
  | n, y :: r => if y = x then some n else fI x (n + 1) r
theorem find_strs (x : Sg) : ∀ (ns : List Sg) (n : Nat), findI (.str x) n (ns.map .str) = fI x n ns
  | [], n => rfl
  | a :: r, n => by
    simp only [List.map_cons, findI, fI, eqPV_str, find_strs x r (n + 1)]
    by_cases h : a = x <;> simp [h]
theorem fI_some (x : Sg) : ∀ (ns : List Sg) (n : Nat), (fI x n ns).isSome = ns.contains x
  | [], n => rfl
  | a :: r, n => by
    simp only [fI, List.contains_cons]
    by_cases h : a = x
    · simp [h]
    · rw [if_neg h, fI_some x r (n + 1)]
      have : (x == a) = false := by
        rw [Bool.eq_false_iff, ne_eq, beq_iff_eq]
        exact fun z => h z.symm
      rw [this, Bool.false_or]
theorem fI_get {x : Sg} : ∀ {ns : List Sg} {n i : Nat}, fI x n ns = some i → n ≤ i ∧ ns[i - n]? = some x
  | a :: r, n, i, h => by
    simp only [fI] at h
    split at h
    · rename_i e
      cases h
      subst e
      simp
    · obtain ⟨h1, h2⟩ := fI_get h
      refine ⟨by omega, ?_⟩
      have : i - n = (i - (n + 1)) + 1 := by omega
      rw [this]
      simpa using h2
/-- the place of a name that stands once -/
theorem fI_nodup {x : Sg} : ∀ {ns : List Sg} {n i : Nat}, ns.Nodup → ns[i]? = some x → fI x n ns = some (n + i)
  | a :: r, n, 0, hn, h => by
    simp only [List.getElem?_cons_zero, Option.some.injEq] at h
    simp [fI, h]
  | a :: r, n, i + 1, hn, h => by
    simp only [List.getElem?_cons_succ] at h
    rw [List.nodup_cons] at hn
    have : a ≠ x := fun z => hn.1 (z ▸ List.mem_of_getElem? h)
    simp only [fI]
    rw [if_neg this, fI_nodup hn.2 h]
    congr 1
    omega
theorem fI_none {x : Sg} {ns : List Sg} {n : Nat} (h : x ∉ ns) : fI x n ns = none := by
  have := fI_some x ns n
  cases e : fI x n ns with
  | none => rfl
  | some k =>
    rw [e] at this
    simp only [Option.isSome_some] at this
    exact absurd (by simpa using this.symm) h
theorem in_ok {x : Sg} {ns : List Sg} (hx : okS x = true) (h : ∀ x ∈ ns, okS x = true) : cmpPV .isin (.str x) (.lst (ns.map .str)) = some (ns.contains x) := by
  show (if (flat 60 (.str x) && flats 60 (ns.map .str)) = true then some (inPV (.str x) (ns.map .str)) else none) = _
  rw [flat_str hx, flats_strs h, in_strs]
  rfl
theorem notin_ok {x : Sg} {ns : List Sg} (hx : okS x = true) (h : ∀ x ∈ ns, okS x = true) : cmpPV .notin (.str x) (.lst (ns.map .str)) = some (!ns.contains x) := by
  show (if (flat 60 (.str x) && flats 60 (ns.map .str)) = true then some (inPV (.str x) (ns.map .str)) else none).map (! ·) = _
  rw [flat_str hx, flats_strs h, in_strs]
  rfl
theorem index_ok {x : Sg} {ns : List Sg} (hx : okS x = true) (h : ∀ x ∈ ns, okS x = true) : metPV .index (.lst (ns.map .str)) [.str x] = (fI x 0 ns).map fun n : Nat => PV.int (n : Int) := by
  show (if (flat 60 (.str x) && flats 60 (ns.map .str)) = true then (findI (.str x) 0 (ns.map .str)).map fun n : Nat => PV.int (n : Int) else none) = _
  rw [flat_str hx, flats_strs h, find_strs]
  rfl
@[simp] theorem eq_str {x y : Sg} : cmpPV .eq (.str x) (.str y) = some (x == y) := rfl
@[simp] theorem ne_str {x y : Sg} : cmpPV .ne (.str x) (.str y) = some (!(x == y)) := rfl
@[simp] theorem isnot_nn : cmpPV .isnot .non .non = some false := rfl
@[simp] theorem isnot_in {i : Int} : cmpPV .isnot (.int i) .non = some true := rfl
@[simp] theorem isnot_bn {i : Bool} : cmpPV .isnot (.bl i) .non = some true := rfl
@[simp] theorem isnot_sn {i : Sg} : cmpPV .isnot (.str i) .non = some true := rfl
@[simp] theorem isnot_tn {i : List PV} : cmpPV .isnot (.tup i) .non = some true := rfl
@[simp] theorem isnot_ln {i : List PV} : cmpPV .isnot (.lst i) .non = some true := rfl
@[simp] theorem mask_val {p : PV} : (Slot.val p).mask = .val p := rfl
@[simp] theorem mask_no : Slot.no.mask = .no := rfl
@[simp] theorem mask_hold {m : MO} : (Slot.hold m).mask = .no := rfl
@[simp] theorem items_t {xs : List PV} : itemsOf (.tup xs) = some xs := rfl
@[simp] theorem items_l {xs : List PV} : itemsOf (.lst xs) = some xs := rfl
theorem eq_flat {p q : PV} (hp : flat 60 p = true) (hq : flat 60 q = true) : cmpPV .eq p q = some (eqPV p q) := by
  cases p <;> cases q <;> first | rfl | (simp only [cmpPV, hp, hq]; rfl)
theorem ne_flat {p q : PV} (hp : flat 60 p = true) (hq : flat 60 q = true) : cmpPV .ne p q = some (!eqPV p q) := by
  cases p <;> cases q <;> first | rfl | (simp only [cmpPV, hp, hq]; rfl)
end Mn
end

section
set_option linter.all false
set_option autoImplicit false
set_option maxRecDepth 100000
/-! MnShow: how long a value's text is. -/
namespace Mn
open PySem PySem.Spec PyProof.Rows
/-- data of a depth below n whose text has at most b signs -/
structure Sh (n b : Nat) (p : PV) : Prop where
  fl : flat n p = true
  sw : PyData.showable (toD p) = true
  le : (shw p).length ≤ b
theorem Sh.mono {n b b' : Nat} {p : PV} (h : Sh n b p) (hb : b ≤ b') : Sh n b' p := ⟨h.fl, h.sw, Nat.le_trans h.le hb⟩
theorem flats_ofS {n : Nat} : ∀ {xs : List PV}, (∀ x ∈ xs, flat n x = true) → flats n xs = true
  | [], _ => by simp [flats]
  | x :: r, h => by
    simp only [flats, Bool.and_eq_true]
    exact ⟨h x List.mem_cons_self, flats_ofS fun y hy => h y (List.mem_cons_of_mem _ hy)⟩
theorem flat_more : ∀ (n : Nat) (p : PV), flat n p = true → flat (n + 1) p = true
  | n, .non, _ => by simp [flat]
  | n, .bl _, _ => by simp [flat]
  | n, .int _, _ => by simp [flat]
  | n, .str x, h => by simpa [flat] using h
  | 0, .tup xs, h => by simp [flat] at h
  | n + 1, .tup xs, h => by
    simp only [flat] at h ⊢
    exact flats_more n xs h
  | 0, .lst xs, h => by simp [flat] at h
  | n + 1, .lst xs, h => by
    simp only [flat] at h ⊢
    exact flats_more n xs h
  | n, .ref _, h => by simp [flat] at h
  | n, .fn _, h => by simp [flat] at h
where flats_more : ∀ (n : Nat) (xs : List PV), flats n xs = true → flats (n + 1) xs = true
  | n, [], _ => by simp [flats]
  | n, x :: r, h => by
    simp only [flats, Bool.and_eq_true] at h ⊢
    exact ⟨flat_more n x h.1, flats_more n r h.2⟩
theorem Sh.up {n b : Nat} {p : PV} (h : Sh n b p) : Sh (n + 1) b p := ⟨flat_more n p h.fl, h.sw, h.le⟩
theorem Sh.upto {n m b : Nat} {p : PV} (h : Sh n b p) (hm : n ≤ m) : Sh m b p := by
  induction hm with
  | refl => exact h
  | step _ ih => exact ih.up
theorem showables_of : ∀ {xs : List PV}, (∀ x ∈ xs, PyData.showable (toD x) = true) → PyData.showableAll (toDs xs) = true
  | [], _ => by simp [toDs, PyData.showableAll]
  | x :: r, h => by
    simp only [toDs, PyData.showableAll, Bool.and_eq_true]
    exact ⟨h x List.mem_cons_self, showables_of fun y hy => h y (List.mem_cons_of_mem _ hy)⟩
theorem piled_of {b : Nat} : ∀ {xs : List PV}, (∀ x ∈ xs, (shw x).length ≤ b) → piled (PyData.shownAll (toDs xs)) ≤ xs.length * (b + 2)
  | [], _ => by simp [toDs, PyData.shownAll, piled]
  | x :: r, h => by
    simp only [toDs, PyData.shownAll]
    rw [piled_cons]
    have h1 := h x List.mem_cons_self
    have h2 := piled_of (b := b) (xs := r) fun y hy => h y (List.mem_cons_of_mem _ hy)
    unfold shw at h1
    simp only [List.length_cons, Nat.add_mul, Nat.one_mul]
    omega
theorem tupleText_le (ts : List PySem.Str) : (tupleText ts).length ≤ piled ts + 3 := by
  unfold tupleText
  rw [strLen_append, strLen_append]
  have e1 : ((("(" : String) : PySem.Str)).length = 1 := rfl
  have e2 : (((if ts.length == 1 then ",)" else ")" : String) : PySem.Str)).length ≤ 2 := by split <;> decide
  by_cases hn : ts = []
  · subst hn
    have e3 : (Str.join ", " []).length = 0 := rfl
    rw [e1, e3]
    omega
  · have := join_length_add ts hn
    rw [e1]
    omega
theorem Sh.tup {n b : Nat} {xs : List PV} (h : ∀ x ∈ xs, Sh n b x) : Sh (n + 1) (xs.length * (b + 2) + 3) (.tup xs) where
  fl := by
    simp only [flat]
    exact flats_ofS fun x hx => (h x hx).fl
  sw := by
    simp only [toD, PyData.showable]
    exact showables_of fun x hx => (h x hx).sw
  le := by
    unfold shw
    simp only [toD, PyData.shown]
    have h1 := tupleText_le (PyData.shownAll (toDs xs))
    have h2 := piled_of (b := b) (xs := xs) fun x hx => (h x hx).le
    omega
theorem textFrom_le : ∀ (ts : List PySem.Str) (k : Nat) (acc : PySem.Str), (textFrom k acc ts).length ≤ acc.length + piled ts
  | [], k, acc => by show acc.length ≤ _; simp [piled]
  | t :: r, k, acc => by
    have h := textFrom_le r (k + 1) (acc ++ (if k > 0 then ", " else "" : String) ++ t)
    rw [strLen_append, strLen_append] at h
    have e : (((if k > 0 then ", " else "" : String)) : PySem.Str).length ≤ 2 := by split <;> decide
    rw [piled_cons]
    show (textFrom (k + 1) (acc ++ (if k > 0 then ", " else "" : String) ++ t) r).length ≤ _
    omega
theorem Sh.lst {n b : Nat} {xs : List PV} (h : ∀ x ∈ xs, Sh n b x) : Sh (n + 1) (xs.length * (b + 2) + 3) (.lst xs) where
  fl := by
    simp only [flat]
    exact flats_ofS fun x hx => (h x hx).fl
  sw := by
    simp only [toD, PyData.showable]
    exact showables_of fun x hx => (h x hx).sw
  le := by
    unfold shw
    simp only [toD, PyData.shown]
    unfold listText
    rw [strLen_append]
    have h1 := textFrom_le (PyData.shownAll (toDs xs)) 0 "["
    have h2 := piled_of (b := b) (xs := xs) fun x hx => (h x hx).le
    have e1 : ((("[" : String) : PySem.Str)).length = 1 := rfl
    have e2 : ((("]" : String) : PySem.Str)).length = 1 := rfl
    omega
theorem sh_bl (m : Nat) (b : Bool) : Sh m 60 (.bl b) := ⟨by simp [flat], by simp [toD, PyData.showable], by
  cases b <;> (show (shw (.bl _)).length ≤ 60; decide +kernel)⟩
theorem sh_i10 (m : Nat) {i : Int} (h : i.natAbs < 10 ^ 50) : Sh m 60 (.int i) where
  fl := by simp [flat]
  sw := by
    simp only [toD, PyData.showable, decide_eq_true_eq]
    have : i.natAbs < 2 ^ 170 := Nat.lt_of_lt_of_le h (by decide)
    by_cases h0 : i.natAbs = 0
    · rw [h0]; decide
    · have := (Nat.log2_lt h0).mpr this
      omega
  le := by
    unfold shw
    simp only [toD, PyData.shown]
    have e := int_text_length_le10 (k := 50) (by decide) h
    show (Str.ofString (toString i)).length ≤ 60
    rw [PySem.ofString_length]
    omega
theorem repr_ok {p : PV} {n b : Nat} (h : Sh n b p) (hn : n ≤ 60) (hb : b ≤ 16777216) : bltPV .repr [p] = some (.str (shw p).cps.toList) := by
  show reprPV [p] = _
  have h' := h.upto hn
  have h3 : Nat.ble (shw p).length L = true := Nat.ble_eq_true_of_le (Nat.le_trans h.le hb)
  simp only [reprPV, h'.fl, h'.sw, h3, Bool.and_true, if_true]
end Mn
end

section
set_option linter.all false
set_option autoImplicit false
/-! MnChgF: the defs of changes of programs (printed by mkchg.py). -/
namespace Mn
structure CI where
  nmd : Nat
  fin : Nat
  sin : Nat
  wrg : Nat
  wag : Nat
  bar : Nat
  fob : Nat
  tob : Nat
  obj : Nat
  sof : Nat
  sbt : Nat
  wbt : Nat
  stw : Nat
  waf : Nat
  byw : Nat
  rwy : Nat
  von : Nat
  brg : Nat
  roll : Nat
  some : Nat
  ltyp : Nat
  lcon : Nat
  lfre : Nat
  lfld : Nat
  lcas : Nat
  lfst : Nat
  lexp : Nat
  lprg : Nat
  lmix : Nat
  lkep : Nat
  lnxt : Nat
  lchn : Nat
  lcss : Nat
  lrow : Nat
  lstp : Nat
  gPl : Nat
def nmdFn (o : CI) : Fn := ⟨2, 3, [
  (.for (.nm 2) (.sq (.e (.v 0))) [(.ite (.cmp .eq (.e (.ix (.e (.v 2)) (.int 0))) (.e (.v 1))) [(.ret (.v 2))] [])]),
  (.ret .non)]⟩
def finFn (o : CI) : Fn := ⟨3, 5, [
  (.set (.nm 3) (.call o.nmd [(.ix (.e (.v 0)) (.int 0)), (.v 1)])),
  (.set (.nm 4) (.ife (.cmp .is (.e (.v 3)) (.e .non)) .non (.call o.nmd [(.ix (.e (.v 3)) (.int 2)), (.v 2)]))),
  (.ret (.ife (.cmp .is (.e (.v 4)) (.e .non)) .non (.ix (.e (.v 4)) (.int 1))))]⟩
def sinFn (o : CI) : Fn := ⟨2, 5, [
  (.set (.nm 2) (.fr (.lc [4] (.nm 4) (.sq (.e (.v 0))) [] (.ix (.e (.v 4)) (.int 0))))),
  (.set (.nm 3) (.ife (.cmp .is (.e (.ix (.e (.v 1)) (.int 1))) (.e .non)) (.ix (.e (.v 1)) (.int 0)) (.ix (.e (.v 1)) (.int 1)))),
  (.ret (.ife (.cmp .isin (.e (.v 3)) (.e (.v 2))) (.met .index (.e (.v 2)) [(.e (.v 3))]) .non))]⟩
def wrgFn (o : CI) : Fn := ⟨3, 8, [
  (.set (.nm 3) (.ix (.e (.ix (.e (.v 1)) (.v 2))) (.int 1))),
  (.ite (.cmp .is (.e (.v 3)) (.e .non)) [(.ret (.bl false))] []),
  (.set (.nm 4) (.fr (.lc [5, 6] (.tp [(.nm 5), (.nm 6)]) (.enum (.e (.v 1))) [(.cmp .ne (.e (.v 5)) (.e (.v 2)))] (.ix (.e (.v 6)) (.int 1))))),
  (.ret (.or (.cmp .isin (.e (.v 3)) (.e (.v 4))) (.or (.cmp .isin (.e (.v 3)) (.e (.fr (.lc [6] (.nm 6) (.sq (.e (.v 1))) [] (.ix (.e (.v 6)) (.int 0)))))) (.cmp .notin (.e (.v 3)) (.e (.fr (.lc [7] (.nm 7) (.sq (.e (.v 0))) [] (.ix (.e (.v 7)) (.int 0)))))))))]⟩
def wagFn (o : CI) : Fn := ⟨3, 4, [
  (.ite (.tr (.e (.call o.wrg [(.v 0), (.v 1), (.v 2)]))) [(.ret (.str [119, 97, 115]))] []),
  (.set (.nm 3) (.call o.sin [(.v 0), (.ix (.e (.v 1)) (.v 2))])),
  (.ret (.ife (.and (.cmp .isnot (.e (.v 3)) (.e .non)) (.cmp .ne (.e (.ix (.e (.ix (.e (.v 0)) (.v 3))) (.int 2))) (.e (.ix (.e (.ix (.e (.v 1)) (.v 2))) (.int 2))))) (.str [116, 121, 112, 101]) .non))]⟩
def barFn (o : CI) : Fn := ⟨1, 1, [
  (.ret (.or (.cmp .is (.e (.ix (.e (.v 0)) (.int 3))) (.e .non)) (.cmp .notin (.e (.ix (.e (.v 0)) (.int 2))) (.e (.glob o.gPl)))))]⟩
def fobFn (o : CI) : Fn := ⟨4, 10, [
  (.set (.nm 4) (.call o.fin [(.v 0), (.v 1), (.ix (.e (.v 3)) (.int 0))])),
  (.setO 5 (.lst [])),
  (.for (.tp [(.nm 6), (.nm 7)]) (.enum (.e (.ix (.e (.v 3)) (.int 1)))) [(.set (.nm 8) (.bin .add (.e (.v 2)) (.e (.tup [(.int 1), (.v 6)])))), (.set (.nm 9) (.call o.wag [(.ife (.cmp .is (.e (.v 4)) (.e .non)) (.tup []) (.v 4)), (.ix (.e (.v 3)) (.int 1)), (.v 6)])), (.ite (.cmp .isnot (.e (.v 9)) (.e .non)) [(.app 5 (.tup [(.v 8), (.v 9)]))] [(.ite (.and (.cmp .isnot (.e (.v 4)) (.e .non)) (.and (.cmp .is (.e (.call o.sin [(.v 4), (.v 7)])) (.e .non)) (.tr (.e (.call o.bar [(.v 7)]))))) [(.app 5 (.tup [(.v 8), (.str [110, 101, 119])]))] [])])]),
  (.retO 5)]⟩
def tobFn (o : CI) : Fn := ⟨3, 7, [
  (.par 3 (.f (.lst [])) 4 (.e (.call o.nmd [(.ix (.e (.v 0)) (.int 0)), (.ix (.e (.v 1)) (.int 0))]))),
  (.ite (.and (.cmp .isnot (.e (.v 4)) (.e .non)) (.cmp .ne (.e (.ix (.e (.v 4)) (.int 1))) (.e (.ix (.e (.v 1)) (.int 1))))) [(.app 3 (.tup [(.v 2), (.str [112, 97, 114, 97, 109, 101, 116, 101, 114])]))] []),
  (.ite (.and (.cmp .isnot (.e (.v 4)) (.e .non)) (.not (.tr (.e (.blt .all [(.e (.fr (.lc [6] (.nm 6) (.sq (.e (.ix (.e (.v 4)) (.int 2)))) [] (.cmp .isnot (.e (.call o.nmd [(.ix (.e (.v 1)) (.int 2)), (.ix (.e (.v 6)) (.int 0))])) (.e .non)))))]))))) [(.app 3 (.tup [(.v 2), (.str [99, 97, 115, 101])]))] []),
  (.for (.tp [(.nm 5), (.nm 6)]) (.enum (.e (.ix (.e (.v 1)) (.int 2)))) [(.setO 3 (.cat (.own 3) (.e (.call o.fob [(.v 0), (.ix (.e (.v 1)) (.int 0)), (.bin .add (.e (.v 2)) (.e (.tup [(.int 2), (.v 5)]))), (.v 6)]))))]),
  (.retO 3)]⟩
def objFn (o : CI) : Fn := ⟨2, 6, [
  (.setO 2 (.lst [])),
  (.for (.tp [(.nm 3), (.nm 4)]) (.enum (.e (.ix (.e (.v 1)) (.int 0)))) [(.setO 2 (.cat (.own 2) (.e (.call o.tob [(.v 0), (.v 4), (.tup [(.int 0), (.v 3)])]))))]),
  (.for (.nm 3) (.rng (.blt .len [(.e (.ix (.e (.v 1)) (.int 1)))])) [(.set (.nm 5) (.call o.wag [(.ix (.e (.v 0)) (.int 1)), (.ix (.e (.v 1)) (.int 1)), (.v 3)])), (.ite (.cmp .isnot (.e (.v 5)) (.e .non)) [(.app 2 (.tup [(.tup [(.int 1), (.v 3)]), (.v 5)]))] [])]),
  (.ite (.not (.tr (.e (.blt .all [(.e (.fr (.lc [4] (.nm 4) (.sq (.e (.ix (.e (.v 0)) (.int 0)))) [] (.cmp .isnot (.e (.call o.nmd [(.ix (.e (.v 1)) (.int 0)), (.ix (.e (.v 4)) (.int 0))])) (.e .non)))))])))) [(.app 2 (.tup [(.tup []), (.str [103, 111, 110, 101])]))] []),
  (.ret (.blt .tuple [(.own 2)]))]⟩
def sofFn (o : CI) : Fn := ⟨3, 6, [
  (.ite (.cmp .eq (.e (.ix (.e (.v 2)) (.int 0))) (.e (.int 1))) [(.ret (.call o.sin [(.ix (.e (.v 0)) (.int 1)), (.ix (.e (.ix (.e (.v 1)) (.int 1))) (.ix (.e (.v 2)) (.int 1)))]))] []),
  (.set (.nm 3) (.ix (.e (.ix (.e (.v 1)) (.int 0))) (.ix (.e (.v 2)) (.int 1)))),
  (.set (.nm 4) (.ix (.e (.ix (.e (.v 3)) (.int 2))) (.ix (.e (.v 2)) (.int 3)))),
  (.set (.nm 5) (.call o.fin [(.v 0), (.ix (.e (.v 3)) (.int 0)), (.ix (.e (.v 4)) (.int 0))])),
  (.ret (.ife (.cmp .is (.e (.v 5)) (.e .non)) .non (.call o.sin [(.v 5), (.ix (.e (.ix (.e (.v 4)) (.int 1))) (.ix (.e (.v 2)) (.int 5)))])))]⟩
def sbtFn (o : CI) : Fn := ⟨2, 5, [
  (.setO 2 (.lst [])),
  (.for (.nm 3) (.sq (.e (.v 1))) [(.set (.nm 4) (.call o.sin [(.v 0), (.v 3)])), (.app 2 (.ife (.cmp .is (.e (.v 4)) (.e .non)) (.tup [(.str [99, 111, 110, 115, 116, 97, 110, 116]), (.ix (.e (.v 3)) (.int 3))]) (.tup [(.str [102, 114, 111, 109]), (.v 4)])))]),
  (.ret (.blt .tuple [(.own 2)]))]⟩
def wbtFn (o : CI) : Fn := ⟨2, 5, [
  (.setO 2 (.lst [])),
  (.for (.nm 3) (.sq (.e (.ix (.e (.v 0)) (.int 0)))) [(.for (.nm 4) (.sq (.e (.ix (.e (.v 3)) (.int 2)))) [(.app 2 (.tup [(.ix (.e (.v 4)) (.int 0)), (.call o.sbt [(.ix (.e (.v 4)) (.int 1)), (.call o.fin [(.v 1), (.ix (.e (.v 3)) (.int 0)), (.ix (.e (.v 4)) (.int 0))])])]))])]),
  (.ret (.blt .tuple [(.e (.fr (.srt (.own 2))))]))]⟩
def stwFn (o : CI) : Fn := ⟨1, 5, [
  (.set (.nm 1) (.fr (.lst []))),
  (.for (.nm 2) (.sq (.e (.ix (.e (.v 0)) (.int 0)))) [(.set (.nm 1) (.fr (.cat (.e (.v 1)) (.e (.fr (.lc [3] (.nm 3) (.sq (.e (.ix (.e (.v 2)) (.int 2)))) [] (.tup [(.ix (.e (.v 3)) (.int 0)), (.blt .tuple [(.e (.fr (.lc [4] (.nm 4) (.rng (.blt .len [(.e (.ix (.e (.v 3)) (.int 1)))])) [] (.tup [(.str [102, 114, 111, 109]), (.v 4)]))))])])))))))]),
  (.ret (.blt .tuple [(.e (.fr (.srt (.e (.v 1)))))]))]⟩
def wafFn (o : CI) : Fn := ⟨2, 7, [
  (.set (.nm 2) (.dictp (.e (.fr (.list (.e (.v 1))))))),
  (.setO 3 (.lst [])),
  (.for (.tp [(.nm 4), (.nm 5)]) (.sq (.e (.v 0))) [(.app 3 (.tup [(.v 4), (.blt .tuple [(.e (.fr (.lc [6] (.nm 6) (.sq (.e (.ix (.e (.v 2)) (.v 4)))) [] (.ife (.cmp .eq (.e (.ix (.e (.v 6)) (.int 0))) (.e (.str [102, 114, 111, 109]))) (.ix (.e (.v 5)) (.ix (.e (.v 6)) (.int 1))) (.v 6)))))])]))]),
  (.ret (.blt .tuple [(.own 3)]))]⟩
def bywFn (o : CI) : Fn := ⟨3, 5, [
  (.set (.nm 3) (.ix (.e (.dictp (.e (.fr (.list (.e (.v 0))))))) (.v 1))),
  (.ret (.blt .tuple [(.e (.fr (.lc [4] (.nm 4) (.sq (.e (.v 3))) [] (.ife (.cmp .eq (.e (.ix (.e (.v 4)) (.int 0))) (.e (.str [102, 114, 111, 109]))) (.ix (.e (.v 2)) (.ix (.e (.v 4)) (.int 1))) (.ix (.e (.v 4)) (.int 1))))))]))]⟩
def rwyFn (o : CI) : Fn := ⟨2, 3, [
  (.ret (.blt .tuple [(.e (.fr (.lc [2] (.nm 2) (.sq (.e (.ix (.e (.v 1)) (.int 1)))) [] (.call o.sin [(.ix (.e (.v 0)) (.int 1)), (.v 2)]))))]))]⟩
def vonFn (o : CI) : Fn := ⟨4, 5, [
  (.ite (.cmp .is (.e (.v 2)) (.e .non)) [(.ret (.blt .tuple [(.e (.fr (.lc [4] (.nm 4) (.sq (.e (.call o.rwy [(.v 0), (.v 1)]))) [] (.ix (.e (.v 3)) (.v 4)))))]))] []),
  (.ret (.call o.byw [(.call o.wbt [(.v 0), (.v 1)]), (.v 2), (.v 3)]))]⟩
def brgFn (o : CI) : Fn := ⟨2, 7, [
  (.set (.tp [(.nm 2), (.nm 3), (.nm 4), (.nm 5)]) (.v 1)),
  (.for (.nm 6) (.rng2 (.v 4) (.blt .len [(.e (.v 0))])) [(.set (.nm 5) (.call o.von [(.ix (.e (.v 0)) (.bin .sub (.e (.v 6)) (.e (.int 1)))), (.ix (.e (.v 0)) (.v 6)), (.v 3), (.v 5)]))]),
  (.ret (.tup [(.v 2), (.v 3), (.blt .len [(.e (.v 0))]), (.v 5)]))]⟩
def ltypFn (o : CI) : Fn := ⟨3, 6, [
  (.set (.nm 3) (.call o.roll [(.v 0), (.int 5)])),
  (.ite (.or (.cmp .lt (.e (.v 3)) (.e (.int 3))) (.cmp .eq (.e (.v 2)) (.e (.fr (.lst []))))) [(.ret (.ife (.cmp .lt (.e (.v 3)) (.e (.int 2))) (.tup [(.str [105, 110, 116])]) (.tup [(.str [116, 101, 120, 116])])))] []),
  (.ite (.and (.cmp .eq (.e (.v 3)) (.e (.int 3))) (.tr (.e (.v 1)))) [(.ret (.tup [(.str [111, 119, 110])]))] []),
  (.set (.tp [(.nm 4), (.nm 5)]) (.call o.some [(.v 0), (.v 2)])),
  (.ret (.tup [(.str [111, 102]), (.v 4), (.ife (.tr (.e (.v 5))) (.tup [(.str [105, 110, 116])]) .non)]))]⟩
def lconFn (o : CI) : Fn := ⟨2, 2, [
  (.ret (.ife (.cmp .eq (.e (.v 1)) (.e (.tup [(.str [105, 110, 116])]))) (.bin .sub (.e (.call o.roll [(.v 0), (.int 9)])) (.e (.int 3))) (.call o.some [(.v 0), (.fr (.lst [(.str []), (.str [97]), (.str [110, 111]), (.str [49, 50, 51, 52, 53, 54, 55, 56])]))])))]⟩
def lfreFn (o : CI) : Fn := ⟨2, 3, [
  (.ret (.call o.some [(.v 0), (.fr (.lc [2] (.nm 2) (.sq (.e (.fr (.lst [(.str [97]), (.str [98]), (.str [99]), (.str [100]), (.str [101, 50]), (.str [102, 111, 120]), (.str [103]), (.str [104]), (.str [107]), (.str [109]), (.str [110]), (.str [112]), (.str [113])])))) [(.cmp .notin (.e (.v 2)) (.e (.v 1)))] (.v 2)))]))]⟩
def lfldFn (o : CI) : Fn := ⟨5, 7, [
  (.set (.nm 5) (.call o.ltyp [(.v 0), (.v 3), (.ife (.tr (.e (.v 4))) (.fr (.lst [])) (.v 2))])),
  (.set (.nm 6) (.ife (.and (.cmp .isin (.e (.v 5)) (.e (.tup [(.tup [(.str [105, 110, 116])]), (.tup [(.str [116, 101, 120, 116])])]))) (.or (.tr (.e (.v 4))) (.cmp .eq (.e (.call o.roll [(.v 0), (.int 2)])) (.e (.int 0))))) (.call o.lcon [(.v 0), (.v 5)]) .non)),
  (.ret (.fr (.lst [(.call o.lfre [(.v 0), (.v 1)]), .non, (.v 5), (.v 6), .non])))]⟩
def lcasFn (o : CI) : Fn := ⟨4, 7, [
  (.setO 4 (.lst [])),
  (.for (.nm 5) (.rng (.call o.roll [(.v 0), (.int 4)])) [(.app 4 (.call o.lfld [(.v 0), (.fr (.lc [6] (.nm 6) (.sq (.own 4)) [] (.ix (.e (.v 6)) (.int 0)))), (.v 2), (.v 3), (.bl false)]))]),
  (.frz 4),
  (.ret (.fr (.lst [(.v 1), (.v 4)])))]⟩
def lfstFn (o : CI) : Fn := ⟨1, 11, [
  (.set (.nm 1) (.bin .add (.e (.int 1)) (.e (.call o.roll [(.v 0), (.int 3)])))),
  (.set (.nm 2) (.fr (.slc (.e (.fr (.lst [(.fr (.lst [(.str [66, 111, 120]), (.cmp .eq (.e (.call o.roll [(.v 0), (.int 2)])) (.e (.int 0)))])), (.fr (.lst [(.str [76, 105, 115, 116]), (.cmp .eq (.e (.call o.roll [(.v 0), (.int 2)])) (.e (.int 0)))])), (.fr (.lst [(.str [80, 97, 105, 114]), (.bl false)]))]))) .no (.e (.v 1))))),
  (.setO 3 (.lst [])),
  (.for (.tp [(.nm 4), (.nm 5)]) (.sq (.e (.v 2))) [(.setO 6 (.lst [(.fr (.lst [(.bin .add (.e (.str [78, 111])) (.e (.v 4))), (.fr (.lst []))]))])), (.for (.nm 7) (.rng (.call o.roll [(.v 0), (.int 3)])) [(.app 6 (.call o.lcas [(.v 0), (.ix (.e (.str [65, 66, 67, 68, 69, 70, 71, 72])) (.bin .add (.e (.bin .mul (.e (.int 3)) (.e (.blt .len [(.own 3)])))) (.e (.v 7)))), (.v 2), (.v 5)]))]), (.frz 6), (.app 3 (.fr (.lst [(.v 4), (.v 5), (.v 6)])))]),
  (.setO 8 (.lst [])),
  (.for (.nm 9) (.rng (.call o.roll [(.v 0), (.int 4)])) [(.app 8 (.fr (.lst [(.call o.lfre [(.v 0), (.fr (.lc [10] (.nm 10) (.sq (.own 8)) [] (.ix (.e (.v 10)) (.int 0))))]), .non, (.call o.ltyp [(.v 0), (.bl false), (.v 2)]), .non, .non])))]),
  (.frz 3),
  (.frz 8),
  (.ret (.fr (.lst [(.v 3), (.v 8)])))]⟩
def lexpFn (o : CI) : Fn := ⟨1, 1, [
  (.ite (.cmp .eq (.e (.v 0)) (.e (.tup [(.str [105, 110, 116])]))) [(.ret (.tup [(.str [105, 110, 116]), (.int 4)]))] []),
  (.ret (.ife (.cmp .eq (.e (.v 0)) (.e (.tup [(.str [116, 101, 120, 116])]))) (.tup [(.str [116, 101, 120, 116]), (.str [120])]) (.tup [(.str [109, 97, 107, 101]), (.bin .add (.e (.str [78, 111])) (.e (.ix (.e (.v 0)) (.int 1)))), (.tup [])])))]⟩
def lprgFn (o : CI) : Fn := ⟨1, 9, [
  (.setO 1 (.lst [])),
  (.for (.tp [(.nm 2), (.nm 3), (.nm 4)]) (.sq (.e (.ix (.e (.v 0)) (.int 0)))) [(.set (.nm 5) (.fr (.lc [6] (.nm 6) (.sq (.e (.v 4))) [] (.tup [(.ix (.e (.v 6)) (.int 0)), (.blt .tuple [(.e (.fr (.lc [8] (.nm 8) (.sq (.e (.ix (.e (.v 6)) (.int 1)))) [] (.blt .tuple [(.e (.fr (.slc (.e (.v 8)) .no (.e (.int 4)))))]))))])])))), (.app 1 (.tup [(.v 2), (.v 3), (.blt .tuple [(.e (.v 5))])]))]),
  (.ret (.tup [(.blt .tuple [(.own 1)]), (.blt .tuple [(.e (.fr (.lc [7] (.nm 7) (.sq (.e (.ix (.e (.v 0)) (.int 1)))) [] (.tup [(.ix (.e (.v 7)) (.int 0)), (.ix (.e (.v 7)) (.int 1)), (.ix (.e (.v 7)) (.int 2)), (.call o.lexp [(.ix (.e (.v 7)) (.int 2))])]))))]), (.tup [])]))]⟩
def lmixFn (o : CI) : Fn := ⟨2, 4, [
  (.set (.nm 2) (.fr (.list (.e (.v 1))))),
  (.ite (.and (.cmp .gt (.e (.blt .len [(.e (.v 2))])) (.e (.int 1))) (.cmp .eq (.e (.call o.roll [(.v 0), (.int 2)])) (.e (.int 0)))) [(.set (.nm 3) (.call o.roll [(.v 0), (.blt .len [(.e (.v 2))])])), (.set (.nm 2) (.fr (.cat (.e (.fr (.slc (.e (.v 2)) (.e (.v 3)) .no))) (.e (.fr (.slc (.e (.v 2)) .no (.e (.v 3))))))))] []),
  (.ret (.ife (.cmp .eq (.e (.call o.roll [(.v 0), (.int 4)])) (.e (.int 0))) (.fr (.slr (.e (.v 2)))) (.v 2)))]⟩
def lkepFn (o : CI) : Fn := ⟨3, 11, [
  (.par 3 (.f (.lst [])) 4 (.e (.fr (.lc [10] (.nm 10) (.sq (.e (.v 1))) [] (.ix (.e (.v 10)) (.int 0)))))),
  (.for (.nm 5) (.rng (.blt .len [(.e (.v 1))])) [(.par 6 (.e (.ix (.e (.ix (.e (.v 1)) (.v 5))) (.int 0))) 7 (.e (.fr (.cat (.e (.v 4)) (.e (.fr (.lc [10] (.nm 10) (.sq (.own 3)) [] (.ix (.e (.v 10)) (.int 0))))))))), (.par 8 (.e (.call o.roll [(.v 0), (.int 6)])) 9 (.e (.ix (.e (.ix (.e (.v 1)) (.v 5))) (.int 3)))), (.ite (.and (.cmp .isnot (.e (.v 9)) (.e .non)) (.cmp .eq (.e (.call o.roll [(.v 0), (.int 3)])) (.e (.int 0)))) [(.set (.nm 9) (.call o.some [(.v 0), (.fr (.lst [.non, (.call o.lcon [(.v 0), (.ix (.e (.ix (.e (.v 1)) (.v 5))) (.int 2))])]))]))] []), (.ite (.cmp .eq (.e (.v 8)) (.e (.int 0))) [.cont] []), (.ite (.and (.cmp .eq (.e (.v 8)) (.e (.int 1))) (.cmp .lt (.e (.blt .len [(.e (.v 1))])) (.e (.v 2)))) [(.app 3 (.fr (.lst [(.call o.lfre [(.v 0), (.v 7)]), (.v 6), (.ix (.e (.ix (.e (.v 1)) (.v 5))) (.int 2)), (.v 9), (.v 5)])))] [(.app 3 (.fr (.lst [(.v 6), .non, (.ix (.e (.ix (.e (.v 1)) (.v 5))) (.int 2)), (.v 9), (.v 5)])))])]),
  (.retO 3)]⟩
def lnxtFn (o : CI) : Fn := ⟨2, 17, [
  (.set (.nm 2) (.fr (.lc [14] (.nm 14) (.sq (.e (.ix (.e (.v 1)) (.int 0)))) [] (.fr (.slc (.e (.v 14)) .no (.e (.int 2))))))),
  (.setO 3 (.lst [])),
  (.for (.tp [(.nm 4), (.nm 5), (.nm 6)]) (.sq (.e (.ix (.e (.v 1)) (.int 0)))) [(.setO 7 (.lst [])), (.for (.nm 8) (.sq (.e (.v 6))) [(.setO 9 (.callO o.lkep [(.v 0), (.ix (.e (.v 8)) (.int 1)), (.int 4)])), (.set (.nm 10) (.fr (.cat (.e (.fr (.lc [16] (.nm 16) (.sq (.e (.ix (.e (.v 8)) (.int 1)))) [] (.ix (.e (.v 16)) (.int 0))))) (.e (.fr (.lc [16] (.nm 16) (.sq (.own 9)) [] (.ix (.e (.v 16)) (.int 0)))))))), (.ite (.and (.cmp .lt (.e (.blt .len [(.own 9)])) (.e (.int 4))) (.cmp .eq (.e (.call o.roll [(.v 0), (.int 2)])) (.e (.int 0)))) [(.app 9 (.call o.lfld [(.v 0), (.v 10), (.v 2), (.v 5), (.bl true)]))] []), (.frz 9), (.app 7 (.fr (.lst [(.ix (.e (.v 8)) (.int 0)), (.call o.lmix [(.v 0), (.v 9)])])))]), (.ite (.and (.cmp .lt (.e (.blt .len [(.e (.v 6))])) (.e (.int 3))) (.cmp .eq (.e (.call o.roll [(.v 0), (.int 4)])) (.e (.int 0)))) [(.set (.nm 11) (.fr (.lc [8] (.nm 8) (.sq (.e (.v 6))) [] (.ix (.e (.v 8)) (.int 0))))), (.for (.nm 12) (.sq (.e (.fr (.lst [(.bin .add (.e (.str [65])) (.e (.v 4))), (.bin .add (.e (.str [66])) (.e (.v 4))), (.bin .add (.e (.str [67])) (.e (.v 4)))])))) [(.ite (.and (.cmp .notin (.e (.v 12)) (.e (.v 11))) (.cmp .eq (.e (.blt .len [(.own 7)])) (.e (.blt .len [(.e (.v 6))])))) [(.app 7 (.call o.lcas [(.v 0), (.v 12), (.v 2), (.v 5)]))] [])])] []), (.frz 7), (.app 3 (.fr (.lst [(.v 4), (.v 5), (.call o.lmix [(.v 0), (.v 7)])])))]),
  (.ite (.and (.cmp .lt (.e (.blt .len [(.own 3)])) (.e (.int 4))) (.cmp .eq (.e (.call o.roll [(.v 0), (.int 4)])) (.e (.int 0)))) [(.app 3 (.fr (.lst [(.bin .add (.e (.str [78, 101, 119])) (.e (.blt .str [(.e (.blt .len [(.own 3)]))]))), (.bl false), (.fr (.lst [(.fr (.lst [(.bin .add (.e (.str [78, 111, 78, 101, 119])) (.e (.blt .str [(.e (.blt .len [(.own 3)]))]))), (.fr (.lst []))]))]))])))] []),
  (.setO 13 (.callO o.lkep [(.v 0), (.ix (.e (.v 1)) (.int 1)), (.int 5)])),
  (.ite (.and (.cmp .lt (.e (.blt .len [(.own 13)])) (.e (.int 5))) (.cmp .eq (.e (.call o.roll [(.v 0), (.int 3)])) (.e (.int 0)))) [(.set (.nm 10) (.fr (.cat (.e (.fr (.lc [15] (.nm 15) (.sq (.e (.ix (.e (.v 1)) (.int 1)))) [] (.ix (.e (.v 15)) (.int 0))))) (.e (.fr (.lc [15] (.nm 15) (.sq (.own 13)) [] (.ix (.e (.v 15)) (.int 0)))))))), (.app 13 (.fr (.lst [(.call o.lfre [(.v 0), (.v 10)]), .non, (.call o.ltyp [(.v 0), (.bl false), (.v 2)]), .non, .non])))] []),
  (.frz 3),
  (.frz 13),
  (.ret (.fr (.lst [(.call o.lmix [(.v 0), (.v 3)]), (.call o.lmix [(.v 0), (.v 13)])])))]⟩
def lchnFn (o : CI) : Fn := ⟨2, 4, [
  (.setO 2 (.lst [(.call o.lfst [(.v 0)])])),
  (.for (.nm 3) (.rng (.bin .sub (.e (.v 1)) (.e (.int 1)))) [(.app 2 (.call o.lnxt [(.v 0), (.ix (.own 2) (.neg (.int 1)))]))]),
  (.retO 2)]⟩
def lcssFn (o : CI) : Fn := ⟨1, 6, [
  (.newD 1),
  (.for (.tp [(.nm 2), (.nm 3), (.nm 4)]) (.sq (.e (.ix (.e (.v 0)) (.int 0)))) [(.for (.nm 5) (.sq (.e (.v 4))) [(.putD 1 (.ix (.e (.v 5)) (.int 0)) (.ix (.e (.v 5)) (.int 1)))])]),
  (.retO 1)]⟩
def lrowFn (o : CI) : Fn := ⟨2, 4, [
  (.setO 2 (.lst [])),
  (.for (.nm 3) (.sq (.e (.v 1))) [(.ite (.cmp .eq (.e (.ix (.e (.v 3)) (.int 2))) (.e (.tup [(.str [105, 110, 116])]))) [(.app 2 (.bin .sub (.e (.call o.roll [(.v 0), (.int 100)])) (.e (.int 50))))] [(.app 2 (.ife (.cmp .eq (.e (.ix (.e (.v 3)) (.int 2))) (.e (.tup [(.str [116, 101, 120, 116])]))) (.call o.some [(.v 0), (.fr (.lst [(.str []), (.str [120]), (.str [121, 101, 115])]))]) (.tup [(.str [111, 98, 106, 101, 99, 116]), (.bin .add (.e (.int 1)) (.e (.call o.roll [(.v 0), (.int 9)])))])))])]),
  (.ret (.blt .tuple [(.own 2)]))]⟩
def lstpFn (o : CI) : Fn := ⟨2, 3, [
  (.ret (.blt .tuple [(.e (.fr (.lc [2] (.nm 2) (.sq (.e (.v 0))) [] (.ife (.cmp .is (.e (.ix (.e (.v 2)) (.int 4))) (.e .non)) (.ix (.e (.v 2)) (.int 3)) (.ix (.e (.v 1)) (.ix (.e (.v 2)) (.int 4)))))))]))]⟩
end Mn
end

section
set_option linter.all false
set_option autoImplicit false
set_option maxRecDepth 100000
set_option maxHeartbeats 1000000
/-! MnChg: what the program's own functions of changes give. -/
namespace Mn
/-- a field or a root: its name, its elder name, its type, what stands behind -/
structure Fd where
  nm : Sg
  td : Option Sg
  ty : PV
  ct : PV
def tdP : Option Sg → PV
  | none => .non
  | some s => .str s
def Fd.pv (f : Fd) : PV := .tup [.str f.nm, tdP f.td, f.ty, f.ct]
structure Cs where
  nm : Sg
  fs : List Fd
def Cs.pv (c : Cs) : PV := .tup [.str c.nm, .tup (c.fs.map Fd.pv)]
structure Kd where
  nm : Sg
  has : Bool
  cs : List Cs
def Kd.pv (k : Kd) : PV := .tup [.str k.nm, .bl k.has, .tup (k.cs.map Cs.pv)]
structure Pg where
  ks : List Kd
  rs : List Fd
def Pg.pv (p : Pg) : PV := .tup [.tup (p.ks.map Kd.pv), .tup (p.rs.map Fd.pv), .tup []]
def optP : Option Nat → PV
  | none => .non
  | some i => .int (i : Int)
def optF : Option (List Fd) → PV
  | none => .non
  | some fs => .tup (fs.map Fd.pv)
def optS : Option Sg → PV
  | none => .non
  | some s => .str s
def Fd.key (f : Fd) : Sg := f.td.getD f.nm
def src (ns : List Sg) (f : Fd) : Option Nat := fI f.key 0 ns
def fieldsIn (p : Pg) (k c : Sg) : Option (List Fd) := (p.ks.find? fun x => x.nm == k).bind fun x => (x.cs.find? fun x => x.nm == c).map Cs.fs
structure Fd.Ok (f : Fd) : Prop where
  nm : okS f.nm = true
  td : ∀ t, f.td = some t → okS t = true
  ty : flat 60 f.ty = true
theorem Fd.Ok.key {f : Fd} (h : f.Ok) : okS f.key = true := by
  unfold Fd.key
  cases e : f.td with
  | none => exact h.nm
  | some t => exact h.td t e
@[simp] theorem dr_fd (S : Sto) (f : Fd) : dr S f.pv = f.pv := rfl
@[simp] theorem dr_cs (S : Sto) (f : Cs) : dr S f.pv = f.pv := rfl
@[simp] theorem dr_kd (S : Sto) (f : Kd) : dr S f.pv = f.pv := rfl
@[simp] theorem dr_pg (S : Sto) (f : Pg) : dr S f.pv = f.pv := rfl
@[simp] theorem fd_0 (f : Fd) : ixPV f.pv (.int 0) = some (.str f.nm) := rfl
@[simp] theorem fd_1 (f : Fd) : ixPV f.pv (.int 1) = some (tdP f.td) := rfl
@[simp] theorem fd_2 (f : Fd) : ixPV f.pv (.int 2) = some f.ty := rfl
@[simp] theorem fd_3 (f : Fd) : ixPV f.pv (.int 3) = some f.ct := rfl
@[simp] theorem cs_0 (f : Cs) : ixPV f.pv (.int 0) = some (.str f.nm) := rfl
@[simp] theorem cs_1 (f : Cs) : ixPV f.pv (.int 1) = some (.tup (f.fs.map Fd.pv)) := rfl
@[simp] theorem kd_0 (f : Kd) : ixPV f.pv (.int 0) = some (.str f.nm) := rfl
@[simp] theorem kd_1 (f : Kd) : ixPV f.pv (.int 1) = some (.bl f.has) := rfl
@[simp] theorem kd_2 (f : Kd) : ixPV f.pv (.int 2) = some (.tup (f.cs.map Cs.pv)) := rfl
@[simp] theorem pg_0 (f : Pg) : ixPV f.pv (.int 0) = some (.tup (f.ks.map Kd.pv)) := rfl
@[simp] theorem pg_1 (f : Pg) : ixPV f.pv (.int 1) = some (.tup (f.rs.map Fd.pv)) := rfl
@[simp] theorem dr_td (S : Sto) (t : Option Sg) : dr S (tdP t) = tdP t := by cases t <;> rfl
@[simp] theorem dr_optF (S : Sto) (t : Option (List Fd)) : dr S (optF t) = optF t := by cases t <;> rfl
@[simp] theorem dr_optP (S : Sto) (t : Option Nat) : dr S (optP t) = optP t := by cases t <;> rfl
@[simp] theorem dr_optS (S : Sto) (t : Option Sg) : dr S (optS t) = optS t := by cases t <;> rfl
@[simp] theorem is_td (t : Option Sg) : cmpPV .is (tdP t) .non = some t.isNone := by cases t <;> rfl
@[simp] theorem is_optF (t : Option (List Fd)) : cmpPV .is (optF t) .non = some t.isNone := by cases t <;> rfl
@[simp] theorem isnot_optF (t : Option (List Fd)) : cmpPV .isnot (optF t) .non = some t.isSome := by cases t <;> rfl
@[simp] theorem is_optP (t : Option Nat) : cmpPV .is (optP t) .non = some t.isNone := by cases t <;> rfl
@[simp] theorem isnot_optP (t : Option Nat) : cmpPV .isnot (optP t) .non = some t.isSome := by cases t <;> rfl
@[simp] theorem is_optS (t : Option Sg) : cmpPV .is (optS t) .non = some t.isNone := by cases t <;> rfl
@[simp] theorem isnot_optS (t : Option Sg) : cmpPV .isnot (optS t) .non = some t.isSome := by cases t <;> rfl
theorem atm {α : Type} (g : α → PV) {xs : List α} {i : Nat} : atPV (xs.map g) (i : Int) = (xs[i]?).map g := by
  rw [at_nat, List.getElem?_map]
theorem ixm {α : Type} (g : α → PV) {xs : List α} {i : Nat} : ixPV (.tup (xs.map g)) (.int (i : Int)) = (xs[i]?).map g := by
  rw [ix_t, at_nat, List.getElem?_map]
/-- the defs that all of these laws have -/
structure SrcF (fns : List Fn) (o : CI) : Prop where
  nmd : fns[o.nmd]? = some (nmdFn o)
  fin : fns[o.fin]? = some (finFn o)
  sin : fns[o.sin]? = some (sinFn o)
section
variable {fns : List Fn} {cs : List PV} {w : Nat} {o : CI}
theorem named_eq (F : SrcF fns o) {α : Type} (g : α → PV) (nm : α → Sg) (h0 : ∀ a, ixPV (g a) (.int 0) = some (.str (nm a))) (hd : ∀ S a, dr S (g a) = g a) (n : Nat) (S : Sto) (xs : List α) (x : Sg) :
    callN fns cs w (n + 1) o.nmd [.tup (xs.map g), .str x] S = .ok (((xs.find? fun a => nm a == x).map g).getD .non) S := by
  refine Ok.eq (ok_call F.nmd rfl ?_)
  simp [-Bool.exists_bool, nmdFn, enter]
  refine ok_form g (fun r ρ S' => S' = S ∧ (∃ s, ρ = [.val (.tup (xs.map g)), .val (.str x), s]) ∧ xs.find? (fun a => nm a == x) = r.find? fun a => nm a == x) (fun a r ρ S' q => ?_) (fun ρ S' q => ?_) ⟨rfl, ⟨_, rfl⟩, rfl⟩
  · obtain ⟨rfl, ⟨s, rfl⟩, e⟩ := q
    refine ⟨_, rfl, ?_⟩
    cases hb : nm a == x with
    | true =>
      simp only [List.find?_cons, hb] at e
      simp [-Bool.exists_bool, hd, h0, hb, e]
    | false =>
      simp only [List.find?_cons, hb] at e
      simp [-Bool.exists_bool, hd, h0, hb, e]
  · obtain ⟨rfl, ⟨s, rfl⟩, e⟩ := q
    simp [-Bool.exists_bool, e]
theorem fields_eq (F : SrcF fns o) (n : Nat) (S : Sto) (p : Pg) (k c : Sg) : callN fns cs w (n + 2) o.fin [p.pv, .str k, .str c] S = .ok (optF (fieldsIn p k c)) S := by
  refine Ok.eq (ok_call F.fin rfl ?_)
  have e1 := fun n S xs x => named_eq (cs := cs) (w := w) F Kd.pv Kd.nm kd_0 dr_kd n S xs x
  have e2 := fun n S xs x => named_eq (cs := cs) (w := w) F Cs.pv Cs.nm cs_0 dr_cs n S xs x
  simp [-Bool.exists_bool, finFn, enter, e1]
  unfold fieldsIn
  cases h1 : p.ks.find? fun x => x.nm == k with
  | none => simp [-Bool.exists_bool, optF]
  | some kd =>
    simp [-Bool.exists_bool, e2, Kd.pv]
    cases h2 : kd.cs.find? fun x => x.nm == c with
    | none => simp [-Bool.exists_bool, optF]
    | some ca => simp [-Bool.exists_bool, optF, Cs.pv]
theorem source_eq (F : SrcF fns o) (n : Nat) (S : Sto) (es : List Fd) (f : Fd) (he : ∀ e ∈ es, e.Ok) (hf : f.Ok) (hl : es.length ≤ 1000) : callN fns cs w (n + 1) o.sin [.tup (es.map Fd.pv), f.pv] S = .ok (optP (src (es.map Fd.nm) f)) S := by
  have hn : ∀ x ∈ es.map Fd.nm, okS x = true := fun x hx => by
    obtain ⟨q, hq, rfl⟩ := List.mem_map.mp hx
    exact (he q hq).nm
  have i := in_ok hf.key hn
  have ix := index_ok hf.key hn
  have fs := fI_some f.key (es.map Fd.nm) 0
  have em : es.map (fun e => PV.str e.nm) = (es.map Fd.nm).map .str := by simp [List.map_map, Function.comp_def]
  refine Ok.eq (ok_call F.sin rfl ?_)
  simp [-Bool.exists_bool, sinFn, enter, wipeE]
  refine ok_lcp Fd.pv (fun e => .str e.nm) (by unfold L; omega) (fun x hx => ⟨_, rfl, rfl, by simp [-Bool.exists_bool]⟩) ?_
  rw [em]
  have fin : ∀ (k : Sg), k = f.key → Ok (evSs (ctx fns cs w n) [(.ret (.ife (.cmp .isin (.e (.v 3)) (.e (.v 2))) (.met .index (.e (.v 2)) [(.e (.v 3))]) .non))] [.val (.tup (es.map Fd.pv)), .val f.pv, .val (.lst ((es.map Fd.nm).map .str)), .val (.str k), .no] S) (lf fun a S' => a = optP (src (es.map Fd.nm) f) ∧ S' = S) := by
    intro k e
    subst e
    simp only [ok_scons, ok_ret, ok_ife, ok_tcmp, ok_oe, ok_v, ok_met, ok_ocons, ok_onil, ok_non, sq_rt, lf_rt, List.getElem?_cons_succ, List.getElem?_cons_zero, Option.some.injEq, Slot.val.injEq, exists_eq_left', dr_str, dr_lst, List.map_cons, List.map_nil]
    refine ⟨_, i, ?_⟩
    rw [ix]
    unfold src
    cases e3 : fI f.key 0 (es.map Fd.nm) with
    | none => rw [e3] at fs; rw [← fs]; simp [optP]
    | some k => rw [e3] at fs; rw [← fs]; simp [optP]
  cases e : f.td with
  | none =>
    have ek : f.nm = f.key := by unfold Fd.key; rw [e]; rfl
    have := fin _ ek
    simp [-Bool.exists_bool, e] at this ⊢
    exact this
  | some t =>
    have ek : t = f.key := by unfold Fd.key; rw [e]; rfl
    have := fin _ ek
    simp [-Bool.exists_bool, e, tdP] at this ⊢
    exact this
end
end Mn
end

section
set_option linter.all false
set_option autoImplicit false
set_option maxRecDepth 100000
set_option maxHeartbeats 1000000
/-! MnChg2: objections. -/
namespace Mn
abbrev WAS : Sg := [119, 97, 115]
abbrev TYPE : Sg := [116, 121, 112, 101]
abbrev NEW : Sg := [110, 101, 119]
abbrev PARAM : Sg := [112, 97, 114, 97, 109, 101, 116, 101, 114]
abbrev CASE : Sg := [99, 97, 115, 101]
abbrev GONE : Sg := [103, 111, 110, 101]
abbrev FROM : Sg := [102, 114, 111, 109]
abbrev CONST : Sg := [99, 111, 110, 115, 116, 97, 110, 116]
abbrev tINT : PV := .tup [.str [105, 110, 116]]
abbrev tTEXT : PV := .tup [.str [116, 101, 120, 116]]
/-- a told elder name that cannot stand -/
def wrongT (es rows : List Fd) (i : Nat) (t : Sg) : Bool :=
  (rows.zipIdx.any fun p => p.2 != i && p.1.td == some t) || ((rows.map Fd.nm).contains t || !(es.map Fd.nm).contains t)
def wrong (es rows : List Fd) (i : Nat) (f : Fd) : Bool := match f.td with
  | none => false
  | some t => wrongT es rows i t
def wordA (es rows : List Fd) (i : Nat) (f : Fd) : Option Sg :=
  if wrong es rows i f then some WAS else match (src (es.map Fd.nm) f).bind (es[·]?) with
    | some e => if eqPV e.ty f.ty then none else some TYPE
    | none => none
def isNon : PV → Bool
  | .non => true
  | _ => false
def bare (f : Fd) : Bool := isNon f.ct || !inPV f.ty [tINT, tTEXT]
structure ObjF (fns : List Fn) (cs : List PV) (o : CI) : Prop extends SrcF fns o where
  wrg : fns[o.wrg]? = some (wrgFn o)
  wag : fns[o.wag]? = some (wagFn o)
  bar : fns[o.bar]? = some (barFn o)
  fob : fns[o.fob]? = some (fobFn o)
  tob : fns[o.tob]? = some (tobFn o)
  obj : fns[o.obj]? = some (objFn o)
  pl : cs[o.gPl]? = some (.tup [tINT, tTEXT])
theorem is_isNon (p : PV) : cmpPV .is p .non = some (isNon p) := by cases p <;> rfl
theorem flats_td {α : Type} (f : α → Option Sg) {xs : List α} (h : ∀ x ∈ xs, ∀ t, f x = some t → okS t = true) (n : Nat) : flats n (xs.map fun x => tdP (f x)) = true := by
  induction xs with
  | nil => simp [flats]
  | cons a r ih =>
    simp only [List.map_cons, flats, Bool.and_eq_true]
    refine ⟨?_, ih fun x hx => h x (List.mem_cons_of_mem _ hx)⟩
    cases e : f a with
    | none => cases n <;> simp [tdP, flat]
    | some t => exact flat_str (h a List.mem_cons_self t e) n
theorem in_td {α : Type} (f : α → Option Sg) {xs : List α} {x : Sg} : inPV (.str x) (xs.map fun a => tdP (f a)) = xs.any fun a => f a == some x := by
  unfold inPV
  rw [List.any_map]
  congr 1
  funext a
  simp only [Function.comp]
  cases e : f a with
  | none => rfl
  | some t =>
    show (t == x) = _
    rw [Bool.eq_iff_iff]
    simp
section
variable {fns : List Fn} {cs : List PV} {w : Nat} {o : CI}
theorem zip_mem {α : Type} {xs : List α} {p : α × Nat} (h : p ∈ xs.zipIdx) : xs[p.2]? = some p.1 := by
  have := List.mem_zipIdx_iff_getElem?.mp h
  simpa using this
theorem wrong_eq (F : ObjF fns cs o) (n : Nat) (S : Sto) (es rows : List Fd) (i : Nat) (f : Fd) (he : ∀ e ∈ es, e.Ok) (hr : ∀ e ∈ rows, e.Ok) (hi : rows[i]? = some f) (hl : es.length ≤ 1000) (hl2 : rows.length ≤ 1000) :
    callN fns cs w (n + 1) o.wrg [.tup (es.map Fd.pv), .tup (rows.map Fd.pv), .int (i : Int)] S = .ok (.bl (wrong es rows i f)) S := by
  refine Ok.eq (ok_call F.wrg rfl ?_)
  have hf := hr f (List.mem_of_getElem? hi)
  have L1 : ∀ xs : List Fd, xs.length ≤ 1000 → xs.length ≤ L := fun xs h => by unfold L; omega
  unfold wrong
  cases e : f.td with
  | none => simp [-Bool.exists_bool, wrgFn, enter, atm, hi, e]
  | some t =>
    have ht := hf.td t e
    simp [-Bool.exists_bool, wrgFn, enter, atm, hi, e, tdP, wipeE, enumI_map]
    refine ok_lcm (fun p : Fd × Nat => .tup [.int (p.2 : Int), p.1.pv]) (fun p => p.2 != i) (fun p => tdP p.1.td) (by simpa using L1 _ hl2) (fun p hp => ⟨_, rfl, ?_⟩) ?_
    · have b : (!((p.2 : Int) == (i : Int))) = (p.2 != i) := by
        rw [Bool.eq_iff_iff]
        simp
        omega
      simp [-Bool.exists_bool, b]
    · have m1 : ∀ p ∈ rows.zipIdx.filter (fun p => p.2 != i), ∀ t, p.1.td = some t → okS t = true := fun p hp t e => by
        have := zip_mem (List.mem_filter.mp hp).1
        exact (hr p.1 (List.mem_of_getElem? this)).td t e
      have i1 : cmpPV .isin (.str t) (.lst ((rows.zipIdx.filter fun p => p.2 != i).map fun p => tdP p.1.td)) = some ((rows.zipIdx.filter fun p => p.2 != i).any fun p => p.1.td == some t) := by
        show (if (flat 60 (.str t) && flats 60 ((rows.zipIdx.filter fun p => p.2 != i).map fun p => tdP p.1.td)) = true then some (inPV (.str t) ((rows.zipIdx.filter fun p => p.2 != i).map fun p => tdP p.1.td)) else none) = _
        rw [flat_str ht, flats_td (fun p : Fd × Nat => p.1.td) m1, in_td (fun p : Fd × Nat => p.1.td)]
        rfl
      have a1 : (rows.zipIdx.filter fun p => p.2 != i).any (fun p => p.1.td == some t) = rows.zipIdx.any fun p => p.2 != i && p.1.td == some t := by rw [List.any_filter]
      have nr : ∀ x ∈ rows.map Fd.nm, okS x = true := fun x hx => by
        obtain ⟨q, hq, rfl⟩ := List.mem_map.mp hx
        exact (hr q hq).nm
      have ne : ∀ x ∈ es.map Fd.nm, okS x = true := fun x hx => by
        obtain ⟨q, hq, rfl⟩ := List.mem_map.mp hx
        exact (he q hq).nm
      have i2 := in_ok ht nr
      have i3 := notin_ok ht ne
      have em : ∀ l : List Fd, l.map (fun e => PV.str e.nm) = (l.map Fd.nm).map .str := fun l => by simp [List.map_map, Function.comp_def]
      unfold wrongT
      rw [a1] at i1
      generalize (rows.zipIdx.filter fun p => p.2 != i).map (fun p => tdP p.1.td) = OT at *
      generalize rows.zipIdx.any (fun p => p.2 != i && p.1.td == some t) = b1 at *
      simp only [ok_scons, ok_ret, ok_or, ok_cmp, ok_oe, ok_v, ok_fr, ok_flc, ok_isq, wipeE, sq_rt, lf_rt, List.set_cons_succ, List.set_cons_zero, List.getElem?_cons_succ, List.getElem?_cons_zero, Option.some.injEq, Slot.val.injEq, exists_eq_left', dr_str, dr_lst, i1, dr_bl, tru_blq]
      cases b1 with
      | true => simp
      | false =>
        simp only [Bool.false_eq_true, if_false, itemsOf, Option.some.injEq, exists_eq_left', Bool.false_or]
        refine ok_lcp Fd.pv (fun e => .str e.nm) (L1 _ hl2) (fun x hx => ⟨_, rfl, rfl, by simp [-Bool.exists_bool]⟩) ?_
        rw [em]
        generalize hA : (rows.map Fd.nm).contains t = b2 at *
        simp only [dr_str, dr_lst, i2, Option.some.injEq, exists_eq_left', dr_bl, tru_blq]
        cases b2 with
        | true => simp
        | false =>
          simp only [Bool.false_eq_true, if_false, Option.some.injEq, exists_eq_left', Bool.false_or]
          refine ok_lcp Fd.pv (fun e => .str e.nm) (L1 _ hl) (fun x hx => ⟨_, rfl, rfl, by simp [-Bool.exists_bool]⟩) ?_
          rw [em]
          simp only [dr_str, dr_lst, i3, Option.some.injEq, exists_eq_left']
          exact ⟨trivial, trivial⟩
theorem word_eq (F : ObjF fns cs o) (n : Nat) (S : Sto) (es rows : List Fd) (i : Nat) (f : Fd) (he : ∀ e ∈ es, e.Ok) (hr : ∀ e ∈ rows, e.Ok) (hi : rows[i]? = some f) (hl : es.length ≤ 1000) (hl2 : rows.length ≤ 1000) :
    callN fns cs w (n + 2) o.wag [.tup (es.map Fd.pv), .tup (rows.map Fd.pv), .int (i : Int)] S = .ok (optS (wordA es rows i f)) S := by
  refine Ok.eq (ok_call F.wag rfl ?_)
  have hf := hr f (List.mem_of_getElem? hi)
  have e1 := wrong_eq (w := w) F n S es rows i f he hr hi hl hl2
  have e2 := source_eq (cs := cs) (w := w) F.toSrcF n S es f he hf hl
  unfold wordA
  cases hw : wrong es rows i f with
  | true => simp [-Bool.exists_bool, wagFn, enter, e1, hw, optS]
  | false =>
    simp [-Bool.exists_bool, wagFn, enter, e1, hw, atm, hi, e2]
    cases hs : src (es.map Fd.nm) f with
    | none => simp [-Bool.exists_bool, optP, optS]
    | some s =>
      have hg := (fI_get hs).2
      simp only [Nat.sub_zero, List.getElem?_map] at hg
      cases hx : es[s]? with
      | none => rw [hx] at hg; cases hg
      | some e =>
        have hne := ne_flat (he e (List.mem_of_getElem? hx)).ty hf.ty
        simp [-Bool.exists_bool, optP, optS, atm, hx]
        have d1 : dr S e.ty = e.ty := by
          have := (he e (List.mem_of_getElem? hx)).ty
          cases e : e.ty <;> first | rfl | (rw [e] at this; simp [flat] at this)
        have d2 : dr S f.ty = f.ty := by
          have := hf.ty
          cases e : f.ty <;> first | rfl | (rw [e] at this; simp [flat] at this)
        simp only [d1, d2, hne]
        cases hb : eqPV e.ty f.ty <;> simp [hb]
theorem dr_flat {p : PV} (h : flat 60 p = true) (S : Sto) : dr S p = p := by
  cases p <;> first | rfl | (simp [flat] at h)
theorem bare_eq (F : ObjF fns cs o) (n : Nat) (S : Sto) (f : Fd) (hf : f.Ok) (hc : flat 60 f.ct = true) : callN fns cs w (n + 1) o.bar [f.pv] S = .ok (.bl (bare f)) S := by
  refine Ok.eq (ok_call F.bar rfl ?_)
  unfold bare
  have i1 : cmpPV .notin f.ty (.tup [tINT, tTEXT]) = some (!inPV f.ty [tINT, tTEXT]) := by
    show (if (flat 60 f.ty && flats 60 [tINT, tTEXT]) = true then some (inPV f.ty [tINT, tTEXT]) else none).map (! ·) = _
    rw [hf.ty, show flats 60 [tINT, tTEXT] = true from by decide]
    rfl
  simp [-Bool.exists_bool, barFn, enter, dr_flat hc, dr_flat hf.ty, is_isNon, F.pl]
  cases isNon f.ct with
  | true => simp
  | false => simp [-Bool.exists_bool, i1]
end
end Mn
end

section
set_option linter.all false
set_option autoImplicit false
set_option maxRecDepth 100000
set_option maxHeartbeats 1000000
/-! MnChg3: objections of cases, types and programs. -/
namespace Mn
def place (pl : List PV) (a : Int) (i : Nat) : List PV := pl ++ [.int a, .int (i : Int)]
def objR (es : Option (List Fd)) (rows : List Fd) (pl : List PV) (p : Fd × Nat) : Option PV := match wordA (es.getD []) rows p.2 p.1 with
  | some w => some (.tup [.tup (place pl 1 p.2), .str w])
  | none => if es.isSome && ((src ((es.getD []).map Fd.nm) p.1).isNone && bare p.1) then some (.tup [.tup (place pl 1 p.2), .str NEW]) else none
def objF (es : Option (List Fd)) (rows : List Fd) (pl : List PV) : List PV := rows.zipIdx.filterMap (objR es rows pl)
def findK (ks : List Kd) (x : Sg) : Option Kd := ks.find? fun k => k.nm == x
def findC (ks : List Cs) (x : Sg) : Option Cs := ks.find? fun k => k.nm == x
def objT (elder : Pg) (k : Kd) (pl : List PV) : List PV :=
  (match findK elder.ks k.nm with
    | none => []
    | some h => (if h.has == k.has then [] else [.tup [.tup pl, .str PARAM]]) ++ (if h.cs.all fun c => (findC k.cs c.nm).isSome then [] else [.tup [.tup pl, .str CASE]])) ++
  (k.cs.zipIdx.map fun p => objF (fieldsIn elder k.nm p.1.nm) p.1.fs (place pl 2 p.2)).flatten
def objW (es rows : List Fd) (p : Fd × Nat) : Option PV := (wordA es rows p.2 p.1).map fun w => .tup [.tup [.int 1, .int (p.2 : Int)], .str w]
def objP (elder p : Pg) : List PV :=
  (p.ks.zipIdx.map fun q => objT elder q.1 [.int 0, .int (q.2 : Int)]).flatten ++ p.rs.zipIdx.filterMap (objW elder.rs p.rs) ++ (if elder.ks.all fun k => (findK p.ks k.nm).isSome then [] else [.tup [.tup [], .str GONE]])
structure Cs.Ok (c : Cs) : Prop where
  len : c.fs.length ≤ 100
  fs : ∀ f ∈ c.fs, f.Ok ∧ flat 60 f.ct = true
structure Kd.Ok (k : Kd) : Prop where
  len : k.cs.length ≤ 100
  cs : ∀ c ∈ k.cs, c.Ok
structure Pg.Ok (p : Pg) : Prop where
  len : p.ks.length ≤ 100
  ks : ∀ k ∈ p.ks, k.Ok
  lr : p.rs.length ≤ 100
  rs : ∀ f ∈ p.rs, f.Ok
theorem Pg.Ok.fin {p : Pg} (h : p.Ok) {k c : Sg} {fs : List Fd} (e : fieldsIn p k c = some fs) : fs.length ≤ 100 ∧ ∀ f ∈ fs, f.Ok ∧ flat 60 f.ct = true := by
  unfold fieldsIn at e
  cases h1 : p.ks.find? fun x => x.nm == k with
  | none => rw [h1] at e; cases e
  | some kd =>
    rw [h1] at e
    simp only [Option.bind_some] at e
    cases h2 : kd.cs.find? fun x => x.nm == c with
    | none => rw [h2] at e; cases e
    | some ca =>
      rw [h2] at e
      cases e
      have := (h.ks kd (List.mem_of_find?_eq_some h1)).cs ca (List.mem_of_find?_eq_some h2)
      exact ⟨this.len, this.fs⟩
theorem objF_len (es : Option (List Fd)) (rows : List Fd) (pl : List PV) : (objF es rows pl).length ≤ rows.length := by
  unfold objF
  exact Nat.le_trans (List.length_filterMap_le _ _) (by simp)
@[simp] theorem bin_tup {x y : List PV} : binPV .add (.tup x) (.tup y) = if x.length + y.length ≤ L then some (.tup (x ++ y)) else none := rfl
theorem objR_w {es : Option (List Fd)} {rows : List Fd} {pl : List PV} {p : Fd × Nat} {wd : Sg} (h : wordA (es.getD []) rows p.2 p.1 = some wd) : objR es rows pl p = some (.tup [.tup (place pl 1 p.2), .str wd]) := by
  unfold objR
  rw [h]
theorem objR_n {es : Option (List Fd)} {rows : List Fd} {pl : List PV} {p : Fd × Nat} (h : wordA (es.getD []) rows p.2 p.1 = none) (b : Bool) (hb : (es.isSome && ((src ((es.getD []).map Fd.nm) p.1).isNone && bare p.1)) = b) : objR es rows pl p = if b then some (.tup [.tup (place pl 1 p.2), .str NEW]) else none := by
  unfold objR
  rw [h, ← hb]
section
variable {fns : List Fn} {cs : List PV} {w : Nat} {o : CI}
theorem fob_eq (F : ObjF fns cs o) (n : Nat) (S : Sto) (elder : Pg) (k : Sg) (pl : List PV) (c : Cs) (he : elder.Ok) (hc : c.Ok) (hp : pl.length ≤ 100) :
    callN fns cs w (n + 3) o.fob [elder.pv, .str k, .tup pl, c.pv] S = .ok (.lst (objF (fieldsIn elder k c.nm) c.fs pl)) S := by
  refine Ok.eq (ok_call F.fob rfl ?_)
  have e1 := fun n => fields_eq (cs := cs) (w := w) F.toSrcF n S elder k c.nm
  have hL : ∀ m : Nat, m ≤ 1000 → m ≤ L := fun m h => by unfold L; omega
  simp [-Bool.exists_bool, fobFn, enter, e1, enumI_map]
  have hes : ((fieldsIn elder k c.nm).getD []).length ≤ 1000 ∧ ∀ e ∈ (fieldsIn elder k c.nm).getD [], e.Ok := by
    cases e : fieldsIn elder k c.nm with
    | none => exact ⟨by simp, fun e h => by cases h⟩
    | some fs =>
      have := he.fin e
      exact ⟨Nat.le_trans this.1 (by decide), fun f hf => (this.2 f hf).1⟩
  generalize fieldsIn elder k c.nm = es at *
  have cl := hc.len
  refine ok_form (fun p : Fd × Nat => .tup [.int (p.2 : Int), p.1.pv]) (fun r ρ S' => S' = S ∧ (∀ p ∈ r, c.fs[p.2]? = some p.1) ∧ (∃ acc s1 s2 s3 s4, ρ = [.val elder.pv, .val (.str k), .val (.tup pl), .val c.pv, .val (optF es), .own acc, s1, s2, s3, s4] ∧ acc ++ r.filterMap (objR es c.fs pl) = objF es c.fs pl)) (fun p r ρ S' q => ?_) (fun ρ S' q => ?_) ⟨rfl, fun p hp => zip_mem hp, ⟨_, _, _, _, _, rfl, by simp [objF]⟩⟩
  · obtain ⟨rfl, hm, acc, s1, s2, s3, s4, rfl, hacc⟩ := q
    refine ⟨_, rfl, ?_⟩
    have hi := hm p List.mem_cons_self
    have hf := hc.fs p.1 (List.mem_of_getElem? hi)
    have hr : ∀ e ∈ c.fs, e.Ok := fun e h => (hc.fs e h).1
    have w1 := fun n => word_eq (w := w) F n S' (es.getD []) c.fs p.2 p.1 hes.2 hr hi hes.1 (by omega)
    have al : acc.length ≤ c.fs.length := by
      have := objF_len es c.fs pl
      rw [← hacc, List.length_append] at this
      omega
    have al2 : acc.length < L := by unfold L; omega
    have pl2 : pl.length + 2 ≤ L := by unfold L; omega
    have L2 : 2 ≤ L := by decide
    have hm' : ∀ a b, (a, b) ∈ r → c.fs[b]? = some a := fun a b h => hm (a, b) (List.mem_cons_of_mem _ h)
    have fin : ∀ (x : Option PV), objR es c.fs pl p = x → acc ++ x.toList ++ r.filterMap (objR es c.fs pl) = objF es c.fs pl := fun x e => by
      rw [← hacc, List.filterMap_cons, e]
      cases x <;> simp
    cases es with
    | none =>
      have w1' := w1
      simp only [Option.getD_none, List.map_nil] at w1'
      simp [-Bool.exists_bool, optF, pl2, L2, w1']
      cases hw : wordA [] c.fs p.2 p.1 with
      | none =>
        have := fin _ (objR_n (es := none) hw false rfl)
        simp [-Bool.exists_bool, optS]
        exact ⟨hm', by simpa using this⟩
      | some wd =>
        have := fin _ (objR_w (es := none) hw)
        simp [-Bool.exists_bool, optS, L2, al2]
        exact ⟨hm', by simpa [place] using this⟩
    | some fs =>
      simp only [Option.getD_some] at w1 hes
      have s1 := fun n => source_eq (cs := cs) (w := w) F.toSrcF n S' fs p.1 hes.2 hf.1 hes.1
      have b1 := fun n => bare_eq (w := w) F n S' p.1 hf.1 hf.2
      simp [-Bool.exists_bool, optF, pl2, L2, w1]
      cases hw : wordA fs c.fs p.2 p.1 with
      | some wd =>
        have := fin _ (objR_w (es := some fs) hw)
        simp [-Bool.exists_bool, optS, L2, al2]
        exact ⟨hm', by simpa [place] using this⟩
      | none =>
        have ff := fun b hb => fin _ (objR_n (es := some fs) (p := p) (pl := pl) hw b hb)
        simp only [Option.getD_some, Option.isSome_some, Bool.true_and] at ff
        simp [-Bool.exists_bool, optS, s1, b1]
        cases hs : src (fs.map Fd.nm) p.1 with
        | some s =>
          have := ff false (by simp [hs])
          simp [-Bool.exists_bool, optP]
          exact ⟨hm', by simpa using this⟩
        | none =>
          simp [-Bool.exists_bool, optP]
          cases hb : bare p.1 with
          | false =>
            have := ff false (by simp [hs, hb])
            simp [-Bool.exists_bool]
            exact ⟨hm', by simpa using this⟩
          | true =>
            have := ff true (by simp [hs, hb])
            simp [-Bool.exists_bool, L2, al2]
            exact ⟨hm', by simpa [place] using this⟩
  · obtain ⟨rfl, hm, acc, s1, s2, s3, s4, rfl, hacc⟩ := q
    simp only [List.filterMap_nil, List.append_nil] at hacc
    simp [-Bool.exists_bool, hacc]
end
end Mn
end

section
set_option linter.all false
set_option autoImplicit false
set_option maxRecDepth 100000
set_option maxHeartbeats 1000000
/-! MnChg4: objections of types and programs; sources and ways. -/
namespace Mn
theorem bools_map {α : Type} (b : α → Bool) : ∀ xs : List α, boolsOf (xs.map fun x => .bl (b x)) = some (xs.map b)
  | [] => rfl
  | x :: r => by simp [boolsOf, bools_map b r]
theorem all_map {α : Type} (b : α → Bool) (xs : List α) : bltPV .all [.lst (xs.map fun x => .bl (b x))] = some (.bl (xs.all b)) := by
  show (boolsOf (xs.map fun x => .bl (b x))).map (fun bs => PV.bl (bs.all id)) = _
  rw [bools_map]
  simp [List.all_map]
theorem optK {α : Type} {g : α → PV} {x : Option α} (h : ∀ a, cmpPV .isnot (g a) .non = some true) : cmpPV .isnot ((x.map g).getD .non) .non = some x.isSome := by
  cases x with
  | none => rfl
  | some a => exact h a
theorem optKd {α : Type} {g : α → PV} {x : Option α} {S : Sto} (h : ∀ a, cmpPV .isnot (g a) .non = some true) (hd : ∀ a, dr S (g a) = g a) : cmpPV .isnot (dr S ((x.map g).getD .non)) .non = some x.isSome := by
  cases x with
  | none => rfl
  | some a => show cmpPV .isnot (dr S (g a)) .non = _; rw [hd]; exact h a
theorem flatten_len {α : Type} {xs : List (List α)} {m : Nat} (h : ∀ x ∈ xs, x.length ≤ m) : xs.flatten.length ≤ xs.length * m := by
  induction xs with
  | nil => simp
  | cons a r ih =>
    have h1 := h a List.mem_cons_self
    have h2 := ih fun x hx => h x (List.mem_cons_of_mem _ hx)
    simp only [List.flatten_cons, List.length_append, List.length_cons, Nat.add_mul]
    omega
theorem objT_len (elder : Pg) (k : Kd) (pl : List PV) (hk : k.Ok) : (objT elder k pl).length ≤ 20000 := by
  unfold objT
  have h1 := flatten_len (xs := k.cs.zipIdx.map fun p => objF (fieldsIn elder k.nm p.1.nm) p.1.fs (place pl 2 p.2)) (m := 100) fun x hx => by
    obtain ⟨p, hp, rfl⟩ := List.mem_map.mp hx
    have := hk.cs p.1 (List.mem_of_getElem? (zip_mem hp))
    exact Nat.le_trans (objF_len _ _ _) this.len
  have h2 := hk.len
  simp only [List.length_map, List.length_zipIdx] at h1
  rw [List.length_append]
  have : k.cs.length * 100 ≤ 10000 := by omega
  generalize (k.cs.zipIdx.map fun p => objF (fieldsIn elder k.nm p.1.nm) p.1.fs (place pl 2 p.2)).flatten = FF at *
  split
  · simp; omega
  · rw [List.length_append]
    split <;> split <;> simp <;> omega
section
variable {fns : List Fn} {cs : List PV} {w : Nat} {o : CI}
theorem tob_eq (F : ObjF fns cs o) (n : Nat) (S : Sto) (elder : Pg) (k : Kd) (pl : List PV) (he : elder.Ok) (hk : k.Ok) (hp : pl.length ≤ 50) :
    callN fns cs w (n + 4) o.tob [elder.pv, k.pv, .tup pl] S = .ok (.lst (objT elder k pl)) S := by
  refine Ok.eq (ok_call F.tob rfl ?_)
  have kk := hk.len
  have e1 := fun n S xs x => named_eq (cs := cs) (w := w) F.toSrcF Kd.pv Kd.nm kd_0 dr_kd n S xs x
  have e2 := fun n S xs x => named_eq (cs := cs) (w := w) F.toSrcF Cs.pv Cs.nm cs_0 dr_cs n S xs x
  have L2 : 2 ≤ L := by decide
  have L0 : (0 : Nat) < L := by decide
  have L1 : (1 : Nat) < L := by decide
  have pl2 : pl.length + 2 ≤ L := by unfold L; omega
  -- the last loop
  have fin : ∀ (hd : List PV) (s5 s6 s4 : Slot), hd.length ≤ 2 → (hd = match findK elder.ks k.nm with
      | none => []
      | some h => (if h.has == k.has then [] else [.tup [.tup pl, .str PARAM]]) ++ (if h.cs.all fun c => (findC k.cs c.nm).isSome then [] else [.tup [.tup pl, .str CASE]])) →
      Ok (evSs (ctx fns cs w (n + 3)) ((tobFn o).body.drop 3) [.val elder.pv, .val k.pv, .val (.tup pl), .own hd, s4, s5, s6] S) (lf fun a S' => a = .lst (objT elder k pl) ∧ S' = S) := by
    intro hd s5 s6 s4 hl eh
    simp [-Bool.exists_bool, tobFn, enumI_map]
    refine ok_form (fun p : Cs × Nat => .tup [.int (p.2 : Int), p.1.pv]) (fun r ρ S' => S' = S ∧ (∀ p ∈ r, k.cs[p.2]? = some p.1) ∧ (∃ acc s4 s5 s6, ρ = [.val elder.pv, .val k.pv, .val (.tup pl), .own acc, s4, s5, s6] ∧ acc ++ (r.map fun p => objF (fieldsIn elder k.nm p.1.nm) p.1.fs (place pl 2 p.2)).flatten = objT elder k pl)) (fun p r ρ S' q => ?_) (fun ρ S' q => ?_) ⟨rfl, fun p hp => zip_mem hp, ⟨hd, _, _, _, rfl, by rw [eh]; rfl⟩⟩
    · obtain ⟨rfl, hm, acc, s4, s5, s6, rfl, hacc⟩ := q
      refine ⟨_, rfl, ?_⟩
      have hi := hm p List.mem_cons_self
      have hc := hk.cs p.1 (List.mem_of_getElem? hi)
      have hm' : ∀ a b, (a, b) ∈ r → k.cs[b]? = some a := fun a b h => hm (a, b) (List.mem_cons_of_mem _ h)
      have f1 := fun n => fob_eq (w := w) F n S' elder k.nm (pl ++ [.int 2, .int (p.2 : Int)]) p.1 he hc (by simp; omega)
      have tl := objT_len elder k pl hk
      simp only [List.map_cons, List.flatten_cons] at hacc
      have al : acc.length + (objF (fieldsIn elder k.nm p.1.nm) p.1.fs (pl ++ [.int 2, .int (p.2 : Int)])).length ≤ L := by
        rw [← hacc] at tl
        simp only [List.length_append, place] at tl
        unfold L
        omega
      simp [-Bool.exists_bool, L2, pl2, f1, al]
      exact ⟨hm', by simpa [place] using hacc⟩
    · obtain ⟨rfl, hm, acc, s4, s5, s6, rfl, hacc⟩ := q
      simp only [List.map_nil, List.flatten_nil, List.append_nil] at hacc
      simp [-Bool.exists_bool, hacc]
  rw [show (tobFn o).body = (tobFn o).body.take 3 ++ (tobFn o).body.drop 3 from rfl]
  generalize (tobFn o).body.drop 3 = R at fin ⊢
  cases hh : findK elder.ks k.nm with
  | none =>
    have hh' : elder.ks.find? (fun a => a.nm == k.nm) = none := hh
    simp [-Bool.exists_bool, tobFn, enter, e1, hh']
    exact fin [] _ _ _ (by simp) (by rw [hh])
  | some h =>
    have hh' : elder.ks.find? (fun a => a.nm == k.nm) = some h := hh
    have hmem := he.ks h (List.mem_of_find?_eq_some hh')
    have hle : h.cs.length ≤ L := by have := hmem.len; unfold L; omega
    have key : ∀ (hd : List PV) (R2 : Env → Sto → Prop), True := fun _ _ => trivial
    cases hb : h.has == k.has with
    | true =>
      simp [-Bool.exists_bool, tobFn, enter, e1, hh', Kd.pv, hb, wipeE]
      refine ok_lcp Cs.pv (fun c => .bl (findC k.cs c.nm).isSome) hle (fun x hx => ⟨_, rfl, rfl, ?_⟩) ?_
      · simp [-Bool.exists_bool, e2]
        exact (optKd (g := Cs.pv) (fun a => rfl) (fun a => rfl))
      · simp only [dr_lst, all_map]
        cases ha : h.cs.all fun c => (findC k.cs c.nm).isSome with
        | true =>
          simp [-Bool.exists_bool]
          exact fin [] _ _ _ (by simp) (by rw [hh]; simp [hb, ha])
        | false =>
          simp [-Bool.exists_bool, L2, L0]
          exact fin _ _ _ _ (by simp) (by rw [hh]; simp [hb, ha])
    | false =>
      simp [-Bool.exists_bool, tobFn, enter, e1, hh', Kd.pv, hb, wipeE, L2, L0]
      refine ok_lcp Cs.pv (fun c => .bl (findC k.cs c.nm).isSome) hle (fun x hx => ⟨_, rfl, rfl, ?_⟩) ?_
      · simp [-Bool.exists_bool, e2]
        exact (optKd (g := Cs.pv) (fun a => rfl) (fun a => rfl))
      · simp only [dr_lst, all_map]
        cases ha : h.cs.all fun c => (findC k.cs c.nm).isSome with
        | true =>
          simp [-Bool.exists_bool]
          exact fin _ _ _ _ (by simp) (by rw [hh]; simp [hb, ha])
        | false =>
          simp [-Bool.exists_bool, L2, L1]
          exact fin _ _ _ _ (by simp) (by rw [hh]; simp [hb, ha])
end
end Mn
end

section
set_option linter.all false
set_option autoImplicit false
set_option maxRecDepth 100000
set_option maxHeartbeats 1000000
/-! MnChg5: objections of programs; sources and ways. -/
namespace Mn
theorem range_map_zip {α β : Type} (f : α → Nat → β) (xs : List α) : xs.zipIdx.map (fun p => f p.1 p.2) = xs.zipIdx.map fun p => f p.1 p.2 := rfl
theorem objP_len1 {elder p : Pg} (hp : p.Ok) : (p.ks.zipIdx.map fun q => objT elder q.1 [.int 0, .int (q.2 : Int)]).flatten.length ≤ 2000000 := by
  have h1 := flatten_len (xs := p.ks.zipIdx.map fun q => objT elder q.1 [.int 0, .int (q.2 : Int)]) (m := 20000) fun x hx => by
    obtain ⟨q, hq, rfl⟩ := List.mem_map.mp hx
    exact objT_len _ _ _ (hp.ks q.1 (List.mem_of_getElem? (zip_mem hq)))
  have h2 := hp.len
  simp only [List.length_map, List.length_zipIdx] at h1
  have : p.ks.length * 20000 ≤ 2000000 := by omega
  omega
section
variable {fns : List Fn} {cs : List PV} {w : Nat} {o : CI}
theorem obj_eq (F : ObjF fns cs o) (n : Nat) (S : Sto) (elder p : Pg) (he : elder.Ok) (hp : p.Ok) :
    callN fns cs w (n + 5) o.obj [elder.pv, p.pv] S = .ok (.tup (objP elder p)) S := by
  refine Ok.eq (ok_call F.obj rfl ?_)
  have e1 := fun n S xs x => named_eq (cs := cs) (w := w) F.toSrcF Kd.pv Kd.nm kd_0 dr_kd n S xs x
  have L2 : 2 ≤ L := by decide
  have len1 := objP_len1 (elder := elder) hp
  have len2 : (p.rs.zipIdx.filterMap (objW elder.rs p.rs)).length ≤ 100 := Nat.le_trans (List.length_filterMap_le _ _) (by simpa using hp.lr)
  have hr3 : p.rs.length < 2 ^ 62 := by have := hp.lr; omega
  have er := hp.lr
  have rr := he.lr
  have ek := he.len
  have p0 : atPV ([PV.tup (p.ks.map Kd.pv), PV.tup (p.rs.map Fd.pv), PV.tup []]) 0 = some (PV.tup (p.ks.map Kd.pv)) := rfl
  simp [-Bool.exists_bool, objFn, enter, enumI_map]
  refine ok_form (fun p : Kd × Nat => .tup [.int (p.2 : Int), p.1.pv]) (fun r ρ S' => S' = S ∧ (∀ q ∈ r, p.ks[q.2]? = some q.1) ∧ (∃ acc s3 s4, ρ = [.val elder.pv, .val p.pv, .own acc, s3, s4, .no] ∧ acc ++ (r.map fun q => objT elder q.1 [.int 0, .int (q.2 : Int)]).flatten = (p.ks.zipIdx.map fun q => objT elder q.1 [.int 0, .int (q.2 : Int)]).flatten)) (fun q r ρ S' z => ?_) (fun ρ S' z => ?_) ⟨rfl, fun p hp => zip_mem hp, ⟨[], _, _, rfl, by simp⟩⟩
  · obtain ⟨rfl, hm, acc, s3, s4, rfl, hacc⟩ := z
    refine ⟨_, rfl, ?_⟩
    have hi := hm q List.mem_cons_self
    have hk := hp.ks q.1 (List.mem_of_getElem? hi)
    have hm' : ∀ a b, (a, b) ∈ r → p.ks[b]? = some a := fun a b h => hm (a, b) (List.mem_cons_of_mem _ h)
    have t1 := fun n => tob_eq (w := w) F n S' elder q.1 [.int 0, .int (q.2 : Int)] he hk (by simp)
    simp only [List.map_cons, List.flatten_cons] at hacc
    have al : acc.length + (objT elder q.1 [.int 0, .int (q.2 : Int)]).length ≤ L := by
      rw [← hacc] at len1
      simp only [List.length_append] at len1
      unfold L
      omega
    simp [-Bool.exists_bool, L2, t1, al]
    exact ⟨hm', by simpa using hacc⟩
  · obtain ⟨rfl, hm, acc, s3, s4, rfl, hacc⟩ := z
    simp only [List.map_nil, List.flatten_nil, List.append_nil] at hacc
    subst hacc
    generalize hA : (p.ks.zipIdx.map fun q => objT elder q.1 [.int 0, .int (q.2 : Int)]).flatten = A at *
    have nb : ((p.rs.map Fd.pv).length : Int) = (p.rs.length : Int) := by simp
    simp [-Bool.exists_bool, hr3]
    rw [rngI_0]
    refine ok_form (fun i : Nat => .int (i : Int)) (fun r ρ S1 => S1 = S' ∧ (∃ m, r = List.range' m (p.rs.length - m) ∧ m ≤ p.rs.length ∧ ∃ acc s3 s4 s5, ρ = [.val elder.pv, .val p.pv, .own acc, s3, s4, s5] ∧ acc ++ ((p.rs.zipIdx.drop m).filterMap (objW elder.rs p.rs)) = A ++ p.rs.zipIdx.filterMap (objW elder.rs p.rs))) (fun i r ρ S1 z => ?_) (fun ρ S1 z => ?_) ⟨rfl, 0, by simp [List.range_eq_range'], by omega, A, _, _, _, rfl, by simp⟩
    · obtain ⟨rfl, m, er1, hm1, acc, s3, s4, s5, rfl, hacc⟩ := z
      have hlt : m < p.rs.length := by
        rcases Nat.lt_or_ge m p.rs.length with h | h
        · exact h
        · rw [show p.rs.length - m = 0 by omega] at er1; cases er1
      rw [show p.rs.length - m = (p.rs.length - (m + 1)) + 1 by omega, List.range'_succ, List.cons.injEq] at er1
      obtain ⟨rfl, rfl⟩ := er1
      refine ⟨_, rfl, ?_⟩
      have hi : p.rs[i]? = some p.rs[i] := List.getElem?_eq_getElem hlt
      have w1 := fun n => word_eq (w := w) F n S1 elder.rs p.rs i p.rs[i] he.rs hp.rs hi (by omega) (by omega)
      have hd : p.rs.zipIdx.drop i = (p.rs[i], i) :: p.rs.zipIdx.drop (i + 1) := by
        rw [List.drop_eq_getElem_cons (by simpa using hlt)]
        simp
      rw [hd, List.filterMap_cons] at hacc
      have al : acc.length < L := by
        have z := congrArg List.length hacc
        simp only [List.length_append] at z
        unfold L
        omega
      simp [-Bool.exists_bool, L2, w1]
      cases hw : wordA elder.rs p.rs i p.rs[i] with
      | none =>
        have : objW elder.rs p.rs (p.rs[i], i) = none := by unfold objW; simp [hw]
        rw [this] at hacc
        simp [-Bool.exists_bool, optS]
        exact ⟨i + 1, ⟨rfl, .inr rfl⟩, by omega, hacc⟩
      | some wd =>
        have : objW elder.rs p.rs (p.rs[i], i) = some (.tup [.tup [.int 1, .int (i : Int)], .str wd]) := by unfold objW; simp [hw]
        rw [this] at hacc
        simp [-Bool.exists_bool, optS, al]
        exact ⟨i + 1, ⟨rfl, .inr rfl⟩, by omega, by simpa using hacc⟩
    · obtain ⟨rfl, m, er1, hm1, acc, s3, s4, s5, rfl, hacc⟩ := z
      have : p.rs.length - m = 0 := by
        have := congrArg List.length er1
        simp at this
        omega
      rw [List.drop_eq_nil_of_le (by simp; omega), List.filterMap_nil, List.append_nil] at hacc
      simp [-Bool.exists_bool, wipeE]
      refine ok_lcp Kd.pv (fun c => .bl (findK p.ks c.nm).isSome) (by unfold L; omega) (fun x hx => ⟨_, rfl, rfl, ?_⟩) ?_
      · simp [-Bool.exists_bool, e1]
        exact (optKd (g := Kd.pv) (fun a => rfl) (fun a => rfl))
      · simp only [dr_lst, all_map]
        have al : acc.length < L := by
          rw [hacc, List.length_append]
          unfold L
          omega
        unfold objP
        rw [hA]
        cases ha : elder.ks.all fun c => (findK p.ks c.nm).isSome with
        | true =>
          simp [-Bool.exists_bool]
          rw [hacc]
        | false =>
          simp [-Bool.exists_bool, L2, al]
          rw [← List.append_assoc, hacc]
end
structure WayF (fns : List Fn) (o : CI) : Prop extends SrcF fns o where
  sbt : fns[o.sbt]? = some (sbtFn o)
  wbt : fns[o.wbt]? = some (wbtFn o)
  rwy : fns[o.rwy]? = some (rwyFn o)
/-- where a field's value comes from -/
def srcP (es : List Fd) (f : Fd) : PV := match src (es.map Fd.nm) f with
  | none => .tup [.str CONST, f.ct]
  | some i => .tup [.str FROM, .int (i : Int)]
theorem srcP_none {es : List Fd} {f : Fd} (h : src (es.map Fd.nm) f = none) : srcP es f = .tup [.str CONST, f.ct] := by
  unfold srcP
  rw [h]
theorem srcP_some {es : List Fd} {f : Fd} {i : Nat} (h : src (es.map Fd.nm) f = some i) : srcP es f = .tup [.str FROM, .int (i : Int)] := by
  unfold srcP
  rw [h]
section
variable {fns : List Fn} {cs : List PV} {w : Nat} {o : CI}
theorem sbt_eq (F : WayF fns o) (n : Nat) (S : Sto) (es fs : List Fd) (he : ∀ e ∈ es, e.Ok) (hf : ∀ e ∈ fs, e.Ok) (hl : es.length ≤ 1000) (hl2 : fs.length ≤ 1000) :
    callN fns cs w (n + 2) o.sbt [.tup (es.map Fd.pv), .tup (fs.map Fd.pv)] S = .ok (.tup (fs.map (srcP es))) S := by
  refine Ok.eq (ok_call F.sbt rfl ?_)
  have L2 : 2 ≤ L := by decide
  simp [-Bool.exists_bool, sbtFn, enter]
  refine ok_form Fd.pv (fun r ρ S' => S' = S ∧ (∀ f ∈ r, f ∈ fs) ∧ (∃ acc s3 s4, ρ = [.val (.tup (es.map Fd.pv)), .val (.tup (fs.map Fd.pv)), .own acc, s3, s4] ∧ acc ++ r.map (srcP es) = fs.map (srcP es))) (fun f r ρ S' z => ?_) (fun ρ S' z => ?_) ⟨rfl, fun f h => h, [], _, _, rfl, rfl⟩
  · obtain ⟨rfl, hm, acc, s3, s4, rfl, hacc⟩ := z
    refine ⟨_, rfl, ?_⟩
    have s1 := fun n => source_eq (cs := cs) (w := w) F.toSrcF n S' es f he (hf f (hm f List.mem_cons_self)) hl
    have hm' : ∀ g ∈ r, g ∈ fs := fun g h => hm g (List.mem_cons_of_mem _ h)
    rw [List.map_cons] at hacc
    have al : acc.length < L := by
      have z := congrArg List.length hacc
      simp only [List.length_append, List.length_cons, List.length_map] at z
      unfold L
      omega
    simp [-Bool.exists_bool, s1]
    cases hs : src (es.map Fd.nm) f with
    | none =>
      rw [srcP_none hs] at hacc
      simp [-Bool.exists_bool, optP, L2, al]
      exact ⟨hm', hacc⟩
    | some i =>
      rw [srcP_some hs] at hacc
      simp [-Bool.exists_bool, optP, L2, al]
      exact ⟨hm', hacc⟩
  · obtain ⟨rfl, hm, acc, s3, s4, rfl, hacc⟩ := z
    simp only [List.map_nil, List.append_nil] at hacc
    simp [-Bool.exists_bool, hacc]
theorem rwy_eq (F : WayF fns o) (n : Nat) (S : Sto) (elder p : Pg) (he : elder.Ok) (hp : p.Ok) :
    callN fns cs w (n + 2) o.rwy [elder.pv, p.pv] S = .ok (.tup (p.rs.map fun f => optP (src (elder.rs.map Fd.nm) f))) S := by
  refine Ok.eq (ok_call F.rwy rfl ?_)
  simp [-Bool.exists_bool, rwyFn, enter, wipeE]
  have h1 := hp.lr
  have h2 := he.lr
  refine ok_lcp Fd.pv (fun f => optP (src (elder.rs.map Fd.nm) f)) (by unfold L; omega) (fun f hf => ⟨_, rfl, rfl, ?_⟩) ?_
  · have s1 := fun n S => source_eq (cs := cs) (w := w) F.toSrcF n S elder.rs f he.rs (hp.rs f hf) (by omega)
    simp [-Bool.exists_bool, s1]
  · simp
/-- what a way tells of a case, all of them there -/
def wayC (p : Pg) (k : Kd) (c : Cs) : PV := .tup [.str c.nm, .tup (((fieldsIn p k.nm c.nm).getD []).map (srcP c.fs))]
def wayU (elder p : Pg) : List PV := (elder.ks.map fun k => k.cs.map fun c => wayC p k c).flatten
theorem wbt_eq (F : WayF fns o) (n : Nat) (S : Sto) (elder p : Pg) (he : elder.Ok) (hp : p.Ok) (hc : ∀ k ∈ elder.ks, ∀ c ∈ k.cs, (fieldsIn p k.nm c.nm).isSome = true) {ss : List PV} (hs : srtL (wayU elder p) = some ss) :
    callN fns cs w (n + 3) o.wbt [elder.pv, p.pv] S = .ok (.tup ss) S := by
  refine Ok.eq (ok_call F.wbt rfl ?_)
  have L2 : 2 ≤ L := by decide
  have tl : (wayU elder p).length ≤ 10000 := by
    unfold wayU
    have h1 := flatten_len (xs := elder.ks.map fun k => k.cs.map fun c => wayC p k c) (m := 100) fun x hx => by
      obtain ⟨k, hk, rfl⟩ := List.mem_map.mp hx
      simpa using (he.ks k hk).len
    have := he.len
    simp only [List.length_map] at h1
    have : elder.ks.length * 100 ≤ 10000 := by omega
    omega
  simp [-Bool.exists_bool, wbtFn, enter]
  refine ok_form Kd.pv (fun r ρ S' => S' = S ∧ (∀ f ∈ r, f ∈ elder.ks) ∧ (∃ acc s3 s4, ρ = [.val elder.pv, .val p.pv, .own acc, s3, s4] ∧ acc ++ (r.map fun k => k.cs.map fun c => wayC p k c).flatten = wayU elder p)) (fun k r ρ S' z => ?_) (fun ρ S' z => ?_) ⟨rfl, fun f h => h, [], _, _, rfl, rfl⟩
  · obtain ⟨rfl, hm, acc0, s3, s4, rfl, hacc0⟩ := z
    refine ⟨_, rfl, ?_⟩
    have hk := hm k List.mem_cons_self
    have hm' : ∀ g ∈ r, g ∈ elder.ks := fun g h => hm g (List.mem_cons_of_mem _ h)
    simp only [List.map_cons, List.flatten_cons] at hacc0
    simp [-Bool.exists_bool]
    refine ok_form Cs.pv (fun q ρ S1 => S1 = S' ∧ (∀ c ∈ q, c ∈ k.cs) ∧ (∃ acc s4, ρ = [.val elder.pv, .val p.pv, .own acc, .val k.pv, s4] ∧ acc ++ ((q.map fun c => wayC p k c) ++ (r.map fun k => k.cs.map fun c => wayC p k c).flatten) = wayU elder p)) (fun c q ρ S1 z => ?_) (fun ρ S1 z => ?_) ⟨rfl, fun c h => h, acc0, _, rfl, hacc0⟩
    · obtain ⟨rfl, hq, acc, s4, rfl, hacc⟩ := z
      refine ⟨_, rfl, ?_⟩
      have hcm := hq c List.mem_cons_self
      have hq' : ∀ g ∈ q, g ∈ k.cs := fun g h => hq g (List.mem_cons_of_mem _ h)
      have hcc := (he.ks k hk).cs c hcm
      have hsm := hc k hk c hcm
      have f1 := fun n => fields_eq (cs := cs) (w := w) F.toSrcF n S1 p k.nm c.nm
      cases hfi : fieldsIn p k.nm c.nm with
      | none => rw [hfi] at hsm; cases hsm
      | some fs =>
        have hfs := hp.fin hfi
        have cl := hcc.len
        have b1 := fun n => sbt_eq (cs := cs) (w := w) F n S1 c.fs fs (fun e h => (hcc.fs e h).1) (fun e h => (hfs.2 e h).1) (by omega) (by omega)
        rw [List.map_cons] at hacc
        have al : acc.length < L := by
          have z := congrArg List.length hacc
          simp only [List.length_append, List.length_cons] at z
          unfold L
          omega
        have wc : wayC p k c = .tup [.str c.nm, .tup (fs.map (srcP c.fs))] := by unfold wayC; rw [hfi]; rfl
        rw [wc] at hacc
        simp [-Bool.exists_bool, f1, hfi, optF, b1, L2, al]
        exact ⟨hq', by simpa using hacc⟩
    · obtain ⟨rfl, hq, acc, s4, rfl, hacc⟩ := z
      simp [-Bool.exists_bool]
      exact ⟨hm', by simpa using hacc⟩
  · obtain ⟨rfl, hm, acc, s3, s4, rfl, hacc⟩ := z
    simp only [List.map_nil, List.flatten_nil, List.append_nil] at hacc
    subst hacc
    simp [-Bool.exists_bool]
    exact hs
end
end Mn
end

section
set_option linter.all false
set_option autoImplicit false
set_option maxRecDepth 100000
set_option maxHeartbeats 1000000
/-! MnChg6: where a field or a root comes from. -/
namespace Mn
@[simp] theorem at_4 {α : Type} {xs : List α} : atPV xs 4 = xs[4]? := at_nat (k := 4)
@[simp] theorem at_5 {α : Type} {xs : List α} : atPV xs 5 = xs[5]? := at_nat (k := 5)
section
variable {fns : List Fn} {cs : List PV} {w : Nat} {o : CI}
theorem sof_root (F : SrcF fns o) (hs : fns[o.sof]? = some (sofFn o)) (n : Nat) (S : Sto) (elder p : Pg) (he : elder.Ok) (hp : p.Ok) (r : Nat) (f : Fd) (hf : p.rs[r]? = some f) :
    callN fns cs w (n + 3) o.sof [elder.pv, p.pv, .tup [.int 1, .int (r : Int)]] S = .ok (optP (src (elder.rs.map Fd.nm) f)) S := by
  refine Ok.eq (ok_call hs rfl ?_)
  have h2 := he.lr
  have s1 := fun n S => source_eq (cs := cs) (w := w) F n S elder.rs f he.rs (hp.rs f (List.mem_of_getElem? hf)) (by omega)
  simp [-Bool.exists_bool, sofFn, enter, atm, hf, s1]
theorem sof_field (F : SrcF fns o) (hs : fns[o.sof]? = some (sofFn o)) (n : Nat) (S : Sto) (elder p : Pg) (he : elder.Ok) (hp : p.Ok) (t c i : Nat) (k : Kd) (ca : Cs) (f : Fd) (hk : p.ks[t]? = some k) (hc : k.cs[c]? = some ca) (hf : ca.fs[i]? = some f) :
    callN fns cs w (n + 3) o.sof [elder.pv, p.pv, .tup [.int 0, .int (t : Int), .int 2, .int (c : Int), .int 1, .int (i : Int)]] S = .ok (optP ((fieldsIn elder k.nm ca.nm).bind fun es => src (es.map Fd.nm) f)) S := by
  refine Ok.eq (ok_call hs rfl ?_)
  have f1 := fun n S => fields_eq (cs := cs) (w := w) F n S elder k.nm ca.nm
  simp [-Bool.exists_bool, sofFn, enter, atm, hk, hc, hf, f1]
  cases hfi : fieldsIn elder k.nm ca.nm with
  | none => simp [-Bool.exists_bool, optF, optP]
  | some es =>
    have hes := he.fin hfi
    have hfo := (((hp.ks k (List.mem_of_getElem? hk)).cs ca (List.mem_of_getElem? hc)).fs f (List.mem_of_getElem? hf)).1
    have s1 := fun n S => source_eq (cs := cs) (w := w) F n S es f (fun e h => (hes.2 e h).1) hfo (by omega)
    simp [-Bool.exists_bool, optF, atm, hk, hc, hf, s1]
end
mutual
theorem eqPV_self : ∀ {n : Nat} {p : PV}, flat n p = true → eqPV p p = true
  | _, .non, _ => rfl
  | _, .bl b, _ => by simp [eqPV]
  | _, .int i, _ => by simp [eqPV]
  | _, .str x, _ => by simp [eqPV]
  | 0, .tup xs, h => by simp [flat] at h
  | n + 1, .tup xs, h => by
    simp only [flat] at h
    simp only [eqPV]
    exact eqPVs_self h
  | 0, .lst xs, h => by simp [flat] at h
  | n + 1, .lst xs, h => by
    simp only [flat] at h
    simp only [eqPV]
    exact eqPVs_self h
  | n, .ref _, h => by simp [flat] at h
  | n, .fn _, h => by simp [flat] at h
  | n, .dct _ _, h => by simp [flat] at h
theorem eqPVs_self : ∀ {n : Nat} {p : List PV}, flats n p = true → eqPVs p p = true
  | _, [], _ => rfl
  | n, x :: r, h => by
    simp only [flats, Bool.and_eq_true] at h
    simp only [eqPVs, Bool.and_eq_true]
    exact ⟨eqPV_self h.1, eqPVs_self h.2⟩
end
theorem ne_self {p : PV} (h : flat 60 p = true) : cmpPV .ne p p = some false := by rw [ne_flat h h, eqPV_self h]; rfl
theorem eq_self' {p : PV} (h : flat 60 p = true) : cmpPV .eq p p = some true := by rw [eq_flat h h, eqPV_self h]
theorem flats_of {n : Nat} {xs : List PV} (h : ∀ x ∈ xs, flat n x = true) : flats n xs = true := flats_ofS h
end Mn
end

section
set_option linter.all false
set_option autoImplicit false
set_option maxRecDepth 100000
set_option maxHeartbeats 1000000
/-! MnDrw1: programs as they are drawn: what they are; types, constants, names, fields. -/
namespace Mn
abbrev tOWN : PV := .tup [.str [111, 119, 110]]
abbrev OF : Sg := [111, 102]
def NAMES : List Sg := [[97], [98], [99], [100], [101, 50], [102, 111, 120], [103], [104], [107], [109], [110], [112], [113]]
abbrev nBOX : Sg := [66, 111, 120]
abbrev nLIST : Sg := [76, 105, 115, 116]
abbrev nPAIR : Sg := [80, 97, 105, 114]
def NEWN (k : Nat) : Sg := [78, 101, 119, 48 + k]
def TN : List Sg := [nBOX, nLIST, nPAIR, NEWN 1, NEWN 2, NEWN 3]
def letters (t : Sg) : List Sg := if t = nBOX then [[65], [66]] else if t = nLIST then [[68], [69]] else if t = nPAIR then [[71], [72]] else []
/-- the names that cases of a type may have -/
def cn (t : Sg) : List Sg := ([78, 111] ++ t) :: ([65] ++ t) :: ([66] ++ t) :: ([67] ++ t) :: letters t
theorem cn_apart : ∀ t ∈ TN, ∀ u ∈ TN, t ≠ u → ∀ x ∈ cn t, x ∉ cn u := by decide +kernel
def CT : List Sg := [[], [97], [110, 111], [49, 50, 51, 52, 53, 54, 55, 56]]
/-- a type that is drawn -/
def tyOf (n : Sg) (b : Bool) : PV := .tup [.str OF, .str n, if b then tINT else .non]
inductive TyK | int | text | own | of (n : Sg) (b : Bool)
  deriving DecidableEq
def TyK.pv : TyK → PV
  | .int => tINT
  | .text => tTEXT
  | .own => tOWN
  | .of n b => tyOf n b
def TyK.ok (ns : List Sg) : TyK → Prop
  | .of n _ => n ∈ ns
  | _ => True
/-- a constant of a type -/
def isCt (t : TyK) (c : PV) : Prop := (t = .int ∧ ∃ i : Int, c = .int i ∧ -10 < i ∧ i < 10) ∨ (t = .text ∧ ∃ x ∈ CT, c = .str x)
structure Fr where
  nm : Sg
  td : Option Sg
  ty : TyK
  ct : PV
  sr : Option Nat
def Fr.pv (f : Fr) : PV := .lst [.str f.nm, tdP f.td, f.ty.pv, f.ct, optP f.sr]
structure Cr where
  nm : Sg
  fs : List Fr
def Cr.pv (c : Cr) : PV := .lst [.str c.nm, .lst (c.fs.map Fr.pv)]
structure Tr where
  nm : Sg
  has : Bool
  cs : List Cr
def Tr.pv (t : Tr) : PV := .lst [.str t.nm, .bl t.has, .lst (t.cs.map Cr.pv)]
structure Md where
  ts : List Tr
  rs : List Fr
def Md.pv (m : Md) : PV := .lst [.lst (m.ts.map Tr.pv), .lst (m.rs.map Fr.pv)]
abbrev Kn := Sg × Bool
def knP (k : Kn) : PV := .lst [.str k.1, .bl k.2]
structure Fr.G (f : Fr) : Prop where
  nm : f.nm ∈ NAMES
  td : ∀ t, f.td = some t → t ∈ NAMES
  ty : f.ty.ok TN
  ct : f.ct = .non ∨ isCt f.ty f.ct
  sr : ∀ i, f.sr = some i → i < 100
theorem ok_names : ∀ x ∈ NAMES, okS x = true := by decide
theorem ok_tn : ∀ x ∈ TN, okS x = true := by decide
theorem ok_cn : ∀ t ∈ TN, ∀ x ∈ cn t, okS x = true := by decide +kernel
theorem ok_ct : ∀ x ∈ CT, okS x = true := by decide
theorem TyK.flat {t : TyK} (h : t.ok TN) (n : Nat) : Mn.flat (n + 2) t.pv = true := by
  cases t with
  | int => rfl
  | text => rfl
  | own => rfl
  | of m b =>
    have := flat_str (ok_tn m h) (n + 1)
    show (Mn.flat (n + 1) (.str OF) && (Mn.flat (n + 1) (.str m) && (Mn.flat (n + 1) (if b then tINT else .non) && true))) = true
    rw [this]
    cases b <;> rfl
@[simp] theorem dr_ty (S : Sto) (t : TyK) : dr S t.pv = t.pv := by cases t <;> rfl
theorem isCt.flat {t : TyK} {c : PV} (h : isCt t c) (n : Nat) : Mn.flat n c = true := by
  rcases h with ⟨_, i, rfl, _⟩ | ⟨_, x, hx, rfl⟩
  · cases n <;> rfl
  · exact flat_str (ok_ct x hx) n
theorem isCt.ne {t : TyK} {c : PV} (h : isCt t c) : c ≠ .non := by
  rcases h with ⟨_, i, rfl, _⟩ | ⟨_, x, hx, rfl⟩ <;> simp
theorem eq_int' (t : TyK) (h : t.ok TN) : cmpPV .eq t.pv tINT = some (decide (t = .int)) := by
  rw [eq_flat (TyK.flat h 58) (by rfl)]
  cases t with
  | int => rfl
  | text => rfl
  | own => rfl
  | of n b => cases b <;> rfl
structure DrwF (fns : List Fn) (o : CI) : Prop where
  roll : fns[o.roll]? = some rollFn
  some_ : fns[o.some]? = some (someFn o.roll)
  ltyp : fns[o.ltyp]? = some (ltypFn o)
  lcon : fns[o.lcon]? = some (lconFn o)
  lfre : fns[o.lfre]? = some (lfreFn o)
  lfld : fns[o.lfld]? = some (lfldFn o)
  lcas : fns[o.lcas]? = some (lcasFn o)
  lfst : fns[o.lfst]? = some (lfstFn o)
  lexp : fns[o.lexp]? = some (lexpFn o)
  lprg : fns[o.lprg]? = some (lprgFn o)
  lmix : fns[o.lmix]? = some (lmixFn o)
  lkep : fns[o.lkep]? = some (lkepFn o)
  lnxt : fns[o.lnxt]? = some (lnxtFn o)
  lchn : fns[o.lchn]? = some (lchnFn o)
section
variable {fns : List Fn} {cs : List PV} {w n : Nat} {o : CI} {S : Sto}
theorem flat_kns {ks : List Kn} (hk : ∀ k ∈ ks, k.1 ∈ TN) : flat 60 (.lst (ks.map knP)) = true := by
  show flats 59 _ = true
  refine flats_of fun x hx => ?_
  obtain ⟨k, h, rfl⟩ := List.mem_map.mp hx
  have := flat_str (ok_tn _ (hk k h)) 58
  show (flat 58 (.str k.1) && (flat 58 (.bl k.2) && true)) = true
  rw [this]
  rfl
theorem ltyp_ok (F : DrwF fns o) (hc : Cup S) (has : Bool) {ks : List Kn} (hk : ∀ k ∈ ks, k.1 ∈ TN) (hl : ks.length ≤ 100) :
    Ok (callN fns cs w (n + 3) o.ltyp [.ref 0, .bl has, .lst (ks.map knP)] S) fun p S' => ∃ t : TyK, p = t.pv ∧ t.ok (ks.map Prod.fst) ∧ (has = false → t ≠ .own) ∧ (ks = [] → t = .int ∨ t = .text) ∧ Cup S' ∧ Later S S' := by
  refine ok_call F.ltyp rfl ?_
  have L1 : 1 ≤ L := by decide
  have L3 : 3 ≤ L := by decide
  have L0 : 0 ≤ L := by decide
  simp [-Bool.exists_bool, ltypFn, enter]
  refine (roll_ok (n := n + 1) F.roll hc (many := 5) (by omega) (by omega)).mono fun p S1 q => ?_
  obtain ⟨v, rfl, hv, hc1, hl1⟩ := q
  have e0 : cmpPV .eq (.lst (ks.map knP)) (.lst []) = some (decide (ks = [])) := by
    rw [eq_flat (flat_kns hk) rfl]
    cases ks <;> rfl
  by_cases h3 : v < 3
  · by_cases h2 : v < 2
    · have h3' : (v : Int) < 3 := by omega
      have h2' : (v : Int) < 2 := by omega
      simp [-Bool.exists_bool, h3', h2', L1]
      exact ⟨.int, rfl, trivial, fun _ h => (by cases h), fun _ => .inl rfl, hc1, hl1⟩
    · have h3' : (v : Int) < 3 := by omega
      have h2' : ¬ (v : Int) < 2 := by omega
      simp [-Bool.exists_bool, h3', h2', L1]
      exact ⟨.text, rfl, trivial, fun _ h => (by cases h), fun _ => .inr rfl, hc1, hl1⟩
  · have h3' : ¬ (v : Int) < 3 := by omega
    have h2' : ¬ (v : Int) < 2 := by omega
    by_cases hn : ks = []
    · subst hn
      simp only [List.map_nil] at e0
      simp [-Bool.exists_bool, h3', h2', L1]
      exact ⟨.text, rfl, trivial, fun _ h => (by cases h), .inr rfl, hc1, hl1⟩
    · have fin : Ok (callN fns cs w (n + 2) o.some [.ref 0, .lst (ks.map knP)] S1) fun p S' => ∃ k ∈ ks, p = knP k ∧ Cup S' ∧ Later S1 S' := by
        refine (some_ok (n := n) F.some_ F.roll hc1 (.inl rfl) (by simpa using hn) (by simp; omega) (by simp)).mono fun p S2 q => ?_
        obtain ⟨hp, hc2, hl2⟩ := q
        obtain ⟨k, h, rfl⟩ := List.mem_map.mp hp
        exact ⟨k, h, rfl, hc2, hl2⟩
      by_cases h4 : (v : Int) = 3 ∧ has = true
      · simp [-Bool.exists_bool, h3', e0, hn, h4.1, h4.2, L1]
        exact ⟨.own, rfl, trivial, hc1, hl1⟩
      · have : (((v : Int) == 3) && has) = false := by
          cases hb : ((v : Int) == 3) with
          | false => rfl
          | true =>
            cases has with
            | false => rfl
            | true => exact absurd ⟨by simpa using hb, rfl⟩ h4
        have fin2 : Ok (callN fns cs w (n + 2) o.some [.ref 0, .lst (ks.map knP)] S1) fun p S' => ∃ ρ', asg (.tp [.nm 4, .nm 5]) p [.val (.ref 0), .val (.bl has), .val (.lst (ks.map knP)), .val (.int (v : Int)), .no, .no] = some ρ' ∧ Ok (evSs (ctx fns cs w (n + 2)) [(.ret (.tup [(.str [111, 102]), (.v 4), (.ife (.tr (.e (.v 5))) (.tup [(.str [105, 110, 116])]) .non)]))] ρ' S') (lf fun p S' => ∃ t : TyK, p = t.pv ∧ t.ok (ks.map Prod.fst) ∧ (has = false → t ≠ .own) ∧ (ks = [] → t = .int ∨ t = .text) ∧ Cup S' ∧ Later S S') := by
          refine fin.mono fun p S2 q => ?_
          obtain ⟨k, hm, rfl, hc2, hl2⟩ := q
          refine ⟨_, rfl, ?_⟩
          cases hb : k.2 with
          | true =>
            simp [-Bool.exists_bool, hb, L1, L3]
            exact ⟨.of k.1 true, rfl, List.mem_map.mpr ⟨k, hm, rfl⟩, fun _ h => (by cases h), fun h => absurd h hn, hc2, hl1.trans hl2⟩
          | false =>
            simp [-Bool.exists_bool, hb, L1, L3]
            exact ⟨.of k.1 false, rfl, List.mem_map.mpr ⟨k, hm, rfl⟩, fun _ h => (by cases h), fun h => absurd h hn, hc2, hl1.trans hl2⟩
        cases hb : ((v : Int) == 3) with
        | false =>
          have hb' : ¬ (v : Int) = 3 := by simpa using hb
          simp [-Bool.exists_bool, h3', e0, hn, hb, hb'] at fin2 ⊢
          exact fin2
        | true =>
          rw [hb] at this
          have hh : has = false := by simpa using this
          subst hh
          have hb' : (v : Int) = 3 := by simpa using hb
          simp [-Bool.exists_bool, h3', e0, hn, hb, hb'] at fin2 ⊢
          exact fin2
theorem lcon_ok (F : DrwF fns o) (hc : Cup S) (t : TyK) (ht : t = .int ∨ t = .text) : Ok (callN fns cs w (n + 3) o.lcon [.ref 0, t.pv] S) fun p S' => isCt t p ∧ Cup S' ∧ Later S S' := by
  refine ok_call F.lcon rfl ?_
  have L1 : 1 ≤ L := by decide
  have L4 : 4 ≤ L := by decide
  rcases ht with rfl | rfl
  · have e : cmpPV .eq (TyK.pv .int) tINT = some true := rfl
    simp [-Bool.exists_bool, lconFn, enter, e, L1]
    refine (roll_ok (n := n + 1) F.roll hc (many := 9) (by omega) (by omega)).mono fun p S1 q => ?_
    obtain ⟨v, rfl, hv, hc1, hl1⟩ := q
    simp [-Bool.exists_bool]
    exact ⟨.inl ⟨rfl, _, rfl, by omega, by omega⟩, hc1, hl1⟩
  · have e : cmpPV .eq (TyK.pv .text) tINT = some false := rfl
    simp [-Bool.exists_bool, lconFn, enter, e, L1, L4]
    refine (some_ok (n := n) F.some_ F.roll hc (.inl rfl) (by simp) (by simp) (by simp)).mono fun p S1 q => ?_
    obtain ⟨hp, hc1, hl1⟩ := q
    refine ⟨.inr ⟨rfl, ?_⟩, hc1, hl1⟩
    simp only [List.mem_cons, List.not_mem_nil, or_false] at hp
    rcases hp with rfl | rfl | rfl | rfl
    · exact ⟨_, by simp [CT], rfl⟩
    · exact ⟨_, by simp [CT], rfl⟩
    · exact ⟨_, by simp [CT], rfl⟩
    · exact ⟨_, by simp [CT], rfl⟩
/-- a name is left -/
theorem left_ne {taken : List Sg} (h : taken.length ≤ 12) : NAMES.filter (fun x => !taken.contains x) ≠ [] := by
  intro e
  have hall : ∀ x ∈ NAMES, x ∈ taken := fun x hx => by
    by_cases hc : taken.contains x = true
    · simpa using hc
    · have : x ∈ NAMES.filter (fun x => !taken.contains x) := List.mem_filter.mpr ⟨hx, by simpa using hc⟩
      rw [e] at this; cases this
  have nd : NAMES.Nodup := by decide
  have : NAMES.length ≤ taken.length := by
    have := List.Nodup.length_le_of_subset nd hall
    exact this
  simp [NAMES] at this
  omega
theorem lfre_ok (F : DrwF fns o) (hc : Cup S) {taken : List Sg} (ht : ∀ x ∈ taken, okS x = true) (hl : taken.length ≤ 12) : Ok (callN fns cs w (n + 3) o.lfre [.ref 0, .lst (taken.map .str)] S) fun p S' => ∃ x, p = .str x ∧ x ∈ NAMES ∧ x ∉ taken ∧ Cup S' ∧ Later S S' := by
  refine ok_call F.lfre rfl ?_
  have L13 : 13 ≤ L := by decide
  have hl13 : NAMES.length ≤ L := by decide
  simp [-Bool.exists_bool, lfreFn, enter, wipeE, L13]
  refine ok_lcm (xs := NAMES) PV.str (fun x => !taken.contains x) PV.str hl13 (fun x hx => ⟨_, rfl, ?_⟩) ?_
  · have i1 := notin_ok (ok_names x hx) ht
    simp [-Bool.exists_bool, -List.contains_eq_mem, i1]
    cases taken.contains x <;> simp
  · have ne := left_ne hl
    have hf : (NAMES.filter fun x => !taken.contains x).length ≤ 13 := List.length_filter_le _ _
    generalize hA : (NAMES.filter fun x => !taken.contains x) = A at *
    refine (some_ok (n := n) F.some_ F.roll hc (.inl rfl) (by simpa using ne) (by simp; omega) (by simp)).mono fun p S1 q => ?_
    obtain ⟨hp, hc1, hl1⟩ := q
    obtain ⟨x, hx, rfl⟩ := List.mem_map.mp hp
    rw [← hA] at hx
    obtain ⟨h1, h2⟩ := List.mem_filter.mp hx
    exact ⟨x, rfl, h1, by simpa using h2, hc1, hl1⟩
theorem names_fr (fs : List Fr) : (fs.map fun f => PV.str f.nm) = (fs.map Fr.nm).map .str := by simp [List.map_map, Function.comp_def]
@[simp] theorem fr_0 (f : Fr) : ixPV f.pv (.int 0) = some (.str f.nm) := rfl
@[simp] theorem fr_1 (f : Fr) : ixPV f.pv (.int 1) = some (tdP f.td) := rfl
@[simp] theorem fr_2 (f : Fr) : ixPV f.pv (.int 2) = some f.ty.pv := rfl
@[simp] theorem fr_3 (f : Fr) : ixPV f.pv (.int 3) = some f.ct := rfl
@[simp] theorem fr_4 (f : Fr) : ixPV f.pv (.int 4) = some (optP f.sr) := rfl
@[simp] theorem cr_0 (f : Cr) : ixPV f.pv (.int 0) = some (.str f.nm) := rfl
@[simp] theorem cr_1 (f : Cr) : ixPV f.pv (.int 1) = some (.lst (f.fs.map Fr.pv)) := rfl
@[simp] theorem md_0 (f : Md) : ixPV f.pv (.int 0) = some (.lst (f.ts.map Tr.pv)) := rfl
@[simp] theorem md_1 (f : Md) : ixPV f.pv (.int 1) = some (.lst (f.rs.map Fr.pv)) := rfl
@[simp] theorem dr_fr (S : Sto) (f : Fr) : dr S f.pv = f.pv := rfl
@[simp] theorem dr_cr (S : Sto) (f : Cr) : dr S f.pv = f.pv := rfl
@[simp] theorem dr_tr (S : Sto) (f : Tr) : dr S f.pv = f.pv := rfl
@[simp] theorem dr_md (S : Sto) (f : Md) : dr S f.pv = f.pv := rfl
@[simp] theorem dr_kn (S : Sto) (f : Kn) : dr S (knP f) = knP f := rfl
/-- what a drawn field is -/
def FldW (S : Sto) (taken : List Sg) (isOld : Bool) (p : PV) (S' : Sto) : Prop := ∃ f : Fr, p = f.pv ∧ f.G ∧ f.nm ∉ taken ∧ f.td = none ∧ f.sr = none ∧ (isOld = true → isCt f.ty f.ct) ∧ Cup S' ∧ Later S S'
theorem lfld_ok (F : DrwF fns o) (hc : Cup S) {taken : List Sg} (ht : ∀ x ∈ taken, okS x = true) (hlt : taken.length ≤ 12) (has isOld : Bool) {ks : List Kn} (hk : ∀ k ∈ ks, k.1 ∈ TN) (hl : ks.length ≤ 100) :
    Ok (callN fns cs w (n + 4) o.lfld [.ref 0, .lst (taken.map .str), .lst (ks.map knP), .bl has, .bl isOld] S) (FldW S taken isOld) := by
  refine ok_call F.lfld rfl ?_
  have L0 : 0 ≤ L := by decide
  have L1 : 1 ≤ L := by decide
  have L2 : 2 ≤ L := by decide
  have L5 : 5 ≤ L := by decide
  -- the end of it
  have f1 : ∀ (S1 : Sto) (t : TyK) (c : PV) (hc1 : Cup S1) (hl1 : Later S S1) (ht1 : t.ok TN) (hcc : c = .non ∨ isCt t c) (ho : isOld = true → isCt t c),
      Ok (evSs (ctx fns cs w (n + 3)) ((lfldFn o).body.drop 2) [.val (.ref 0), .val (.lst (taken.map .str)), .val (.lst (ks.map knP)), .val (.bl has), .val (.bl isOld), .val t.pv, .val c] S1) (lf (FldW S taken isOld)) := by
    intro S1 t c hc1 hl1 ht1 hcc ho
    simp [-Bool.exists_bool, lfldFn]
    refine (lfre_ok (n := n) F hc1 ht hlt).mono fun p S2 q => ?_
    obtain ⟨x, rfl, hx1, hx2, hc2, hl2⟩ := q
    simp [-Bool.exists_bool, L5]
    exact ⟨⟨x, none, t, c, none⟩, rfl, ⟨hx1, fun t h => (by cases h), ht1, hcc, fun i h => (by cases h)⟩, hx2, rfl, rfl, ho, hc2, hl1.trans hl2⟩
  have sub : ∀ {t : TyK} {l : List Kn}, (∀ k ∈ l, k.1 ∈ TN) → t.ok (l.map Prod.fst) → t.ok TN := fun {t l} hl h => by
    cases t with
    | of m b =>
      obtain ⟨k, hk', rfl⟩ := List.mem_map.mp h
      exact hl k hk'
    | _ => trivial
  have isin : ∀ t : TyK, t.ok TN → cmpPV .isin t.pv (.tup [tINT, tTEXT]) = some (decide (t = .int ∨ t = .text)) := fun t h => by
    show (if (flat 60 t.pv && flats 60 [tINT, tTEXT]) = true then some (inPV t.pv [tINT, tTEXT]) else none) = _
    rw [TyK.flat h 58, show flats 60 [tINT, tTEXT] = true from by decide]
    cases t with
    | int => rfl
    | text => rfl
    | own => rfl
    | of m b => cases b <;> rfl
  have step : ∀ (ks' : List Kn), (∀ k ∈ ks', k.1 ∈ TN) → ks'.length ≤ 100 → (isOld = true → ks' = []) →
      Ok (callN fns cs w (n + 3) o.ltyp [.ref 0, .bl has, .lst (ks'.map knP)] S) fun p S1 => Ok (evSs (ctx fns cs w (n + 3)) ((lfldFn o).body.drop 1) [.val (.ref 0), .val (.lst (taken.map .str)), .val (.lst (ks.map knP)), .val (.bl has), .val (.bl isOld), .val p, .no] S1) (lf (FldW S taken isOld)) := by
    intro ks' hk' hl' ho
    refine (ltyp_ok (n := n) F hc has hk' hl').mono fun p S1 q => ?_
    obtain ⟨t, rfl, ht1, _, ht3, hc1, hl1⟩ := q
    have ht2 := sub hk' ht1
    rw [show (lfldFn o).body.drop 1 = ((lfldFn o).body.drop 1).take 1 ++ (lfldFn o).body.drop 2 from rfl]
    generalize (lfldFn o).body.drop 2 = B at f1 ⊢
    by_cases hp : t = .int ∨ t = .text
    · cases isOld with
      | true =>
        simp [-Bool.exists_bool, lfldFn, isin t ht2, hp, L1, L2]
        refine (lcon_ok (n := n) F hc1 t hp).mono fun c S2 q => ?_
        obtain ⟨h1, h2, h3⟩ := q
        exact f1 S2 t c h2 (hl1.trans h3) ht2 (.inr h1) (fun _ => h1)
      | false =>
        simp [-Bool.exists_bool, lfldFn, isin t ht2, hp, L1, L2]
        refine (roll_ok (n := n + 2) F.roll hc1 (many := 2) (by omega) (by omega)).mono fun p S2 q => ?_
        obtain ⟨v, rfl, hv, hc2, hl2⟩ := q
        by_cases h0 : v = 0
        · subst h0
          simp [-Bool.exists_bool]
          refine (lcon_ok (n := n) F hc2 t hp).mono fun c S3 q => ?_
          obtain ⟨h1, h2, h3⟩ := q
          exact f1 S3 t c h2 ((hl1.trans hl2).trans h3) ht2 (.inr h1) (fun h => (by cases h))
        · have h0' : ((v : Int) == 0) = false := by simpa using h0
          simp [-Bool.exists_bool, h0, h0']
          exact f1 S2 t .non hc2 (hl1.trans hl2) ht2 (.inl rfl) (fun h => (by cases h))
    · have hi : isOld = false := by
        cases isOld with
        | false => rfl
        | true => exact absurd (ht3 (ho rfl)) hp
      subst hi
      simp [-Bool.exists_bool, lfldFn, isin t ht2, hp, L1, L2]
      exact f1 S1 t .non hc1 hl1 ht2 (.inl rfl) (fun h => (by cases h))
  rw [show (lfldFn o).body = (lfldFn o).body.take 1 ++ (lfldFn o).body.drop 1 from rfl]
  generalize (lfldFn o).body.drop 1 = B at step ⊢
  cases isOld with
  | true =>
    simp [-Bool.exists_bool, lfldFn, enter, L0]
    exact step [] (fun k h => (by cases h)) (by simp) (fun _ => rfl)
  | false =>
    simp [-Bool.exists_bool, lfldFn, enter]
    exact step ks hk hl (fun h => (by cases h))
end
end Mn
end

section
set_option linter.all false
set_option autoImplicit false
set_option maxRecDepth 100000
set_option maxHeartbeats 1000000
/-! MnDrw2: a first program, drawn. -/
namespace Mn
structure Cr.G (t : Sg) (c : Cr) : Prop where
  nm : c.nm ∈ cn t
  len : c.fs.length ≤ 4
  nd : (c.fs.map Fr.nm).Nodup
  fs : ∀ f ∈ c.fs, f.G
structure Tr.G (t : Tr) : Prop where
  nm : t.nm ∈ TN
  len : t.cs.length ≤ 3
  nd : (t.cs.map Cr.nm).Nodup
  cs : ∀ c ∈ t.cs, c.G t.nm
structure Md.G (m : Md) : Prop where
  len : m.ts.length ≤ 4
  pos : 0 < m.ts.length
  nd : (m.ts.map Tr.nm).Nodup
  ts : ∀ t ∈ m.ts, t.G
  nw : ∀ k, 0 < k → k < 4 → NEWN k ∈ m.ts.map Tr.nm → k < m.ts.length
  lr : m.rs.length ≤ 5
  rn : (m.rs.map Fr.nm).Nodup
  rs : ∀ f ∈ m.rs, f.G ∧ f.ty ≠ .own
/-- a field that comes new -/
structure Fr.New (f : Fr) : Prop where
  td : f.td = none
  sr : f.sr = none
structure Md.New (m : Md) : Prop where
  ts : ∀ t ∈ m.ts, ∀ c ∈ t.cs, ∀ f ∈ c.fs, f.New
  rs : ∀ f ∈ m.rs, f.New
def CasW (S : Sto) (name : Sg) (p : PV) (S' : Sto) : Prop := ∃ c : Cr, p = c.pv ∧ c.nm = name ∧ c.fs.length ≤ 3 ∧ (∀ f ∈ c.fs, f.G ∧ f.New) ∧ (c.fs.map Fr.nm).Nodup ∧ Cup S' ∧ Later S S'
section
variable {fns : List Fn} {cs : List PV} {w n : Nat} {o : CI} {S : Sto}
theorem lcas_ok (F : DrwF fns o) (hc : Cup S) (name : Sg) (has : Bool) {ks : List Kn} (hk : ∀ k ∈ ks, k.1 ∈ TN) (hl : ks.length ≤ 100) :
    Ok (callN fns cs w (n + 5) o.lcas [.ref 0, .str name, .lst (ks.map knP), .bl has] S) (CasW S name) := by
  refine ok_call F.lcas rfl ?_
  have L2 : 2 ≤ L := by decide
  simp [-Bool.exists_bool, lcasFn, enter]
  refine (roll_ok (n := n + 3) F.roll hc (many := 4) (by omega) (by omega)).mono fun p S1 q => ?_
  obtain ⟨v, rfl, hv, hc1, hl1⟩ := q
  have h62 : v < 2 ^ 62 := by omega
  simp [-Bool.exists_bool, h62]
  rw [rngI_0]
  refine ok_form (fun i : Nat => .int (i : Int)) (fun r ρ S' => Cup S' ∧ Later S S' ∧ ∃ (fs : List Fr) (s5 : Slot), ρ = [.val (.ref 0), .val (.str name), .val (.lst (ks.map knP)), .val (.bl has), .own (fs.map Fr.pv), s5, .no] ∧ fs.length + r.length = v ∧ (∀ f ∈ fs, f.G ∧ f.New) ∧ (fs.map Fr.nm).Nodup) (fun i r ρ S2 q => ?_) (fun ρ S2 q => ?_) ⟨hc1, hl1, [], _, rfl, by simp, fun f h => (by cases h), by simp⟩
  · obtain ⟨hc2, hl2, fs, s5, rfl, hlen, hfs, hnd⟩ := q
    refine ⟨_, rfl, ?_⟩
    simp only [List.length_cons] at hlen
    have hfl : fs.length ≤ L := by unfold L; omega
    have hfl2 : fs.length < L := by unfold L; omega
    simp [-Bool.exists_bool, wipeE]
    refine ok_lcp Fr.pv (fun f => .str f.nm) hfl (fun f hf => ⟨_, rfl, by simp [evTs], by simp [-Bool.exists_bool]⟩) ?_
    rw [names_fr]
    try simp [-Bool.exists_bool, -List.map_map]
    have ho : ∀ x ∈ fs.map Fr.nm, okS x = true := fun x hx => by
      obtain ⟨f, hf, rfl⟩ := List.mem_map.mp hx
      exact ok_names _ (hfs f hf).1.nm
    refine (lfld_ok (n := n) F hc2 ho (by simp; omega) has false hk hl).mono fun p S3 q => ?_
    obtain ⟨f, rfl, g1, g2, g3, g4, _, hc3, hl3⟩ := q
    simp [-Bool.exists_bool, hfl2]
    refine ⟨hc3, hl2.trans hl3, fs ++ [f], by simp, by simp; omega, fun x hx => ?_, ?_⟩
    · rcases List.mem_append.mp hx with h | h
      · exact hfs x h
      · rw [List.mem_singleton.mp h]; exact ⟨g1, g3, g4⟩
    · rw [List.map_append, List.nodup_append]
      refine ⟨hnd, by simp, fun a ha b hb => ?_⟩
      simp only [List.map_cons, List.map_nil, List.mem_singleton] at hb
      subst hb
      exact fun z => g2 (z ▸ ha)
  · obtain ⟨hc2, hl2, fs, s5, rfl, hlen, hfs, hnd⟩ := q
    simp only [List.length_nil] at hlen
    simp [-Bool.exists_bool, L2]
    exact ⟨⟨name, fs⟩, rfl, rfl, by show fs.length ≤ 3; omega, hfs, hnd, hc2, hl2⟩
def KINDS (a b : Bool) : List Kn := [(nBOX, a), (nLIST, b), (nPAIR, false)]
theorem kinds_tn {a b : Bool} {m : Nat} : ∀ k ∈ (KINDS a b).take m, k.1 ∈ TN := fun k hk => by
  have := List.mem_of_mem_take hk
  simp only [KINDS, List.mem_cons, List.not_mem_nil, or_false] at this
  rcases this with rfl | rfl | rfl <;> simp [TN]
/-- the letters of the T-th type -/
def LT (T : Nat) : List Sg := [[65 + 3 * T], [66 + 3 * T]]
def NewRs (kn : List Kn) (rs : List Fr) : Prop := (∀ f ∈ rs, f.G ∧ f.New ∧ f.ty ≠ .own) ∧ (rs.map Fr.nm).Nodup
def FstW (S : Sto) (p : PV) (S' : Sto) : Prop := ∃ m : Md, p = m.pv ∧ m.G ∧ m.New ∧ Cup S' ∧ Later S S'
theorem tyok_sub {t : TyK} {l : List Kn} (hl : ∀ k ∈ l, k.1 ∈ TN) (h : t.ok (l.map Prod.fst)) : t.ok TN := by
  cases t with
  | of m b =>
    obtain ⟨k, hk', rfl⟩ := List.mem_map.mp h
    exact hl k hk'
  | _ => trivial
/-- a root's row -/
theorem rootrow_ok (F : DrwF fns o) (hc : Cup S) {taken : List Sg} (ht : ∀ x ∈ taken, okS x = true) (hlt : taken.length ≤ 12) {ks : List Kn} (hk : ∀ k ∈ ks, k.1 ∈ TN) (hl : ks.length ≤ 100) {Q : PV → Sto → Prop}
    (q : ∀ (f : Fr) (S2 S3 : Sto), f.G → f.New → f.ty ≠ .own → f.ct = .non → f.nm ∉ taken → Cup S3 → Later S S3 → Q (.lst [.str f.nm, .non, f.ty.pv, .non, .non]) S3) :
    Ok (callN fns cs w (n + 3) o.lfre [.ref 0, .lst (taken.map .str)] S) fun p S1 => Ok (callN fns cs w (n + 3) o.ltyp [.ref 0, .bl false, .lst (ks.map knP)] S1) fun t S2 => Q (.lst [p, .non, t, .non, .non]) S2 := by
  refine (lfre_ok (n := n) F hc ht hlt).mono fun p S1 h => ?_
  obtain ⟨x, rfl, hx1, hx2, hc1, hl1⟩ := h
  refine (ltyp_ok (n := n) F hc1 false hk hl).mono fun p S2 h => ?_
  obtain ⟨t, rfl, t1, t2, _, hc2, hl2⟩ := h
  exact q ⟨x, none, t, .non, none⟩ S1 S2 ⟨hx1, fun t h => (by cases h), tyok_sub hk t1, .inl rfl, fun i h => (by cases h)⟩ ⟨rfl, rfl⟩ (t2 rfl) rfl hx2 hc2 (hl1.trans hl2)
/-- the last part: the roots -/
theorem lfst_roots (F : DrwF fns o) (hc : Cup S) {many : Int} {ks : List Kn} (hk : ∀ k ∈ ks, k.1 ∈ TN) (hl : ks.length ≤ 100) (ts : List Tr) (s4 s5 s6 s7 s8 s9 s10 : Slot) {S0 : Sto} (h0 : Later S0 S)
    (G : ∀ rs, rs.length ≤ 5 → NewRs ks rs → Md.G ⟨ts, rs⟩ ∧ Md.New ⟨ts, rs⟩) :
    Ok (evSs (ctx fns cs w (n + 6)) ((lfstFn o).body.drop 4) [.val (.ref 0), .val (.int many), .val (.lst (ks.map knP)), .own (ts.map Tr.pv), s4, s5, s6, s7, s8, s9, s10] S) (lf (FstW S0)) := by
  have L2 : 2 ≤ L := by decide
  have L5 : 5 ≤ L := by decide
  simp [-Bool.exists_bool, lfstFn]
  refine (roll_ok (n := n + 5) F.roll hc (many := 4) (by omega) (by omega)).mono fun p S1 q => ?_
  obtain ⟨v, rfl, hv, hc1, hl1⟩ := q
  have h62 : v < 2 ^ 62 := by omega
  simp [-Bool.exists_bool, h62]
  rw [rngI_0]
  refine ok_form (fun i : Nat => .int (i : Int)) (fun r ρ S' => Cup S' ∧ Later S0 S' ∧ ∃ (fs : List Fr) (s9 s10 : Slot), ρ = [.val (.ref 0), .val (.int many), .val (.lst (ks.map knP)), .own (ts.map Tr.pv), s4, s5, s6, s7, .own (fs.map Fr.pv), s9, s10] ∧ fs.length + r.length = v ∧ NewRs ks fs) (fun i r ρ S2 q => ?_) (fun ρ S2 q => ?_) ⟨hc1, h0.trans hl1, [], _, _, rfl, by simp, fun f h => (by cases h), by simp⟩
  · obtain ⟨hc2, hl2, fs, s9, s10, rfl, hlen, hfs, hnd⟩ := q
    refine ⟨_, rfl, ?_⟩
    simp only [List.length_cons] at hlen
    have hfl : fs.length ≤ L := by unfold L; omega
    have hfl2 : fs.length < L := by unfold L; omega
    have ho : ∀ x ∈ fs.map Fr.nm, okS x = true := fun x hx => by
      obtain ⟨f, hf, rfl⟩ := List.mem_map.mp hx
      exact ok_names _ (hfs f hf).1.nm
    have hlt : (fs.map Fr.nm).length ≤ 12 := by simp; omega
    have key := fun Q q => rootrow_ok (cs := cs) (w := w) (n := n + 3) F hc2 ho hlt hk hl (Q := Q) q
    simp [-Bool.exists_bool, wipeE]
    refine ok_lcp Fr.pv (fun f => .str f.nm) hfl (fun f hf => ⟨_, rfl, by simp [evTs], by simp [-Bool.exists_bool]⟩) ?_
    rw [names_fr]
    try simp [-Bool.exists_bool, -List.map_map]
    refine (key (fun p S' => ∃ f : Fr, p = f.pv ∧ f.G ∧ f.New ∧ f.ty ≠ .own ∧ f.nm ∉ fs.map Fr.nm ∧ Cup S' ∧ Later S2 S') fun f S3 S4 g1 g2 g3 g4 g5 g6 g7 => ⟨f, ?_, g1, g2, g3, g5, g6, g7⟩).mono fun p S3 q => q.mono fun t S4 q => ?_
    · unfold Fr.pv
      rw [g2.td, g2.sr, g4]
      rfl
    · obtain ⟨f, ef, g1, g2, g3, g4, hc4, hl4⟩ := q
      simp [-Bool.exists_bool, L5, hfl2]
      refine ⟨hc4, hl2.trans hl4, fs ++ [f], by simp [ef], by simp; omega, fun x hx => ?_, ?_⟩
      · rcases List.mem_append.mp hx with h | h
        · exact hfs x h
        · rw [List.mem_singleton.mp h]; exact ⟨g1, g2, g3⟩
      · rw [List.map_append, List.nodup_append]
        refine ⟨hnd, by simp, fun a ha b hb => ?_⟩
        simp only [List.map_cons, List.map_nil, List.mem_singleton] at hb
        subst hb
        exact fun z => g4 (z ▸ ha)
  · obtain ⟨hc2, hl2, fs, s9, s10, rfl, hlen, hfs⟩ := q
    simp only [List.length_nil] at hlen
    obtain ⟨g1, g2⟩ := G fs (by omega) hfs
    simp [-Bool.exists_bool, L2]
    exact ⟨⟨ts, fs⟩, rfl, g1, g2, hc2, hl2⟩
end
end Mn
end

section
set_option linter.all false
set_option autoImplicit false
set_option maxRecDepth 100000
set_option maxHeartbeats 1000000
/-! MnDrw3: a first program, drawn: its types. -/
namespace Mn
/-- the i-th type as it is drawn first -/
structure T0 (a b : Bool) (i : Nat) (t : Tr) : Prop where
  k : (KINDS a b)[i]? = some (t.nm, t.has)
  nm : ∃ j, j ≤ 2 ∧ t.cs.map Cr.nm = ([78, 111] ++ t.nm) :: (LT i).take j
  cs : ∀ c ∈ t.cs, c.fs.length ≤ 3 ∧ (∀ f ∈ c.fs, f.G ∧ f.New) ∧ (c.fs.map Fr.nm).Nodup
theorem T0.lt {a b : Bool} {i : Nat} {t : Tr} (h : T0 a b i t) : i < 3 := by
  have := (List.getElem?_eq_some_iff.mp h.k).1
  simpa [KINDS] using this
theorem T0.g {a b : Bool} {i : Nat} {t : Tr} (h : T0 a b i t) : t.G := by
  obtain ⟨j, hj, hn⟩ := h.nm
  have hk := h.k
  have hi := h.lt
  have hcs := h.cs
  have len : t.cs.length = 1 + ((LT i).take j).length := by
    have := congrArg List.length hn
    simp only [List.length_map, List.length_cons] at this
    omega
  have key : t.nm ∈ TN ∧ (t.cs.map Cr.nm).Nodup ∧ ∀ x ∈ t.cs.map Cr.nm, x ∈ cn t.nm := by
    rw [hn]
    rcases (by omega : i = 0 ∨ i = 1 ∨ i = 2) with rfl | rfl | rfl <;> simp only [KINDS, List.getElem?_cons_zero, List.getElem?_cons_succ, Option.some.injEq, Prod.mk.injEq] at hk <;> rw [← hk.1] <;> rcases (by omega : j = 0 ∨ j = 1 ∨ j = 2) with rfl | rfl | rfl <;> decide
  refine ⟨key.1, ?_, key.2.1, fun c hc => ⟨key.2.2 _ (List.mem_map.mpr ⟨c, hc, rfl⟩), by have := (hcs c hc).1; omega, (hcs c hc).2.2, fun f hf => ((hcs c hc).2.1 f hf).1⟩⟩
  have : ((LT i).take j).length ≤ 2 := by simp [LT]; omega
  omega
theorem md0 {a b : Bool} {m : Nat} (hm : 0 < m) {ts : List Tr} (h : ∀ (i : Nat) (t : Tr), ts[i]? = some t → T0 a b i t) (hl : ts.length = ((KINDS a b).take m).length) {rs : List Fr} (hr : rs.length ≤ 5) (N : NewRs ((KINDS a b).take m) rs) : Md.G ⟨ts, rs⟩ ∧ Md.New ⟨ts, rs⟩ := by
  have nms : ts.map Tr.nm = ((KINDS a b).take m).map Prod.fst := by
    apply List.ext_getElem?
    intro i
    rw [List.getElem?_map, List.getElem?_map]
    cases ht : ts[i]? with
    | none =>
      rw [List.getElem?_eq_none (by rw [← hl]; exact List.getElem?_eq_none_iff.mp ht)]
      rfl
    | some t =>
      have hi : i < ((KINDS a b).take m).length := by rw [← hl]; exact (List.getElem?_eq_some_iff.mp ht).1
      have := (h i t ht).k
      rw [List.getElem?_take_of_lt (by simp at hi; omega), this]
      rfl
  have l3 : ((KINDS a b).take m).length ≤ 3 := by simp [KINDS]; omega
  have l1 : 0 < ((KINDS a b).take m).length := by simp [KINDS]; omega
  refine ⟨⟨?_, ?_, ?_, fun t ht => ?_, fun k k0 k4 hk => ?_, hr, N.2, fun f hf => ⟨(N.1 f hf).1, (N.1 f hf).2.2⟩⟩, ⟨fun t ht c hc f hf => ?_, fun f hf => (N.1 f hf).2.1⟩⟩
  · show ts.length ≤ 4; omega
  · show 0 < ts.length; omega
  · show (ts.map Tr.nm).Nodup
    rw [nms, List.map_take]
    exact List.Sublist.nodup (List.take_sublist _ _) (by cases a <;> cases b <;> decide)
  · obtain ⟨i, hi⟩ := List.getElem?_of_mem ht
    exact (h i t hi).g
  · have hk' : NEWN k ∈ ts.map Tr.nm := hk
    rw [nms, List.map_take] at hk'
    have := List.mem_of_mem_take hk'
    have hh : NEWN k ∈ [nBOX, nLIST, nPAIR] := this
    simp [NEWN] at hh
  · obtain ⟨i, hi⟩ := List.getElem?_of_mem ht
    exact (((h i t hi).cs c hc).2.1 f hf).2
section
variable {fns : List Fn} {cs : List PV} {w n : Nat} {o : CI} {S : Sto}
theorem lfst_ok (F : DrwF fns o) (hc : Cup S) : Ok (callN fns cs w (n + 8) o.lfst [.ref 0] S) (FstW S) := by
  refine ok_call F.lfst rfl ?_
  have L2 : 2 ≤ L := by decide
  have L3 : 3 ≤ L := by decide
  have L1 : 1 ≤ L := by decide
  have rts := fun (S1 : Sto) (hc1 : Cup S1) (many : Int) (ks : List Kn) => @lfst_roots fns cs w (n + 1) o S1 F hc1 many ks
  rw [show (lfstFn o).body = (lfstFn o).body.take 4 ++ (lfstFn o).body.drop 4 from rfl]
  have e7 : n + 1 + 6 = n + 7 := rfl
  rw [e7] at rts
  generalize (lfstFn o).body.drop 4 = B at rts ⊢
  simp [-Bool.exists_bool, lfstFn, enter]
  refine (roll_ok (n := n + 6) F.roll hc (many := 3) (by omega) (by omega)).mono fun p S1 q => ?_
  obtain ⟨v, rfl, hv, hc1, hl1⟩ := q
  simp [-Bool.exists_bool, L2, L3]
  refine (roll_ok (n := n + 6) F.roll hc1 (many := 2) (by omega) (by omega)).mono fun p S2 q => ?_
  obtain ⟨a, rfl, ha, hc2, hl2⟩ := q
  simp [-Bool.exists_bool, L2, L3]
  refine (roll_ok (n := n + 6) F.roll hc2 (many := 2) (by omega) (by omega)).mono fun p S3 q => ?_
  obtain ⟨b, rfl, hb, hc3, hl3⟩ := q
  have ek : cutS [PV.lst [.str nBOX, .bl ((a : Int) == 0)], .lst [.str nLIST, .bl ((b : Int) == 0)], .lst [.str nPAIR, .bl false]] none (some (1 + (v : Int))) = ((KINDS ((a : Int) == 0) ((b : Int) == 0)).take (v + 1)).map knP := by
    have h1 : ¬ (1 + (v : Int)) < 0 := by omega
    have h2 : (1 + (v : Int)).toNat = v + 1 := by omega
    unfold cutS slB
    simp only [h1, if_false, h2, List.length_cons, List.length_nil, List.drop_zero, Nat.sub_zero, Nat.zero_add, Nat.reduceAdd]
    rw [show min (v + 1) 3 = v + 1 by omega, List.map_take]
    rfl
  have dl : ∀ S xs, dr S (.lst xs) = .lst xs := fun _ _ => rfl
  simp [-Bool.exists_bool, L2, L3]
  rw [ek]
  generalize hA : ((a : Int) == 0) = A
  generalize hB : ((b : Int) == 0) = B2
  have hk := kinds_tn (a := A) (b := B2) (m := v + 1)
  have hkl : ((KINDS A B2).take (v + 1)).length ≤ 100 := by simp [KINDS]; omega
  have hklen : ((KINDS A B2).take (v + 1)).length = v + 1 := by simp [KINDS]; omega
  have hKg : ∀ (i : Nat) k, ((KINDS A B2).take (v + 1))[i]? = some k → (KINDS A B2)[i]? = some k := fun i k h => by
    have hi := (List.getElem?_eq_some_iff.mp h).1
    rw [hklen] at hi
    rw [List.getElem?_take_of_lt hi] at h
    exact h
  generalize hKd : (KINDS A B2).take (v + 1) = K at hk hkl hklen hKg ⊢
  try simp [-Bool.exists_bool]
  refine ok_form knP (fun r ρ S' => Cup S' ∧ Later S S' ∧ ∃ (ts : List Tr) (s4 s5 s6 s7 : Slot), ρ = [.val (.ref 0), .val (.int (1 + (v : Int))), .val (.lst (K.map knP)), .own (ts.map Tr.pv), s4, s5, s6, s7, .no, .no, .no] ∧ r = K.drop ts.length ∧ (∀ (i : Nat) t, ts[i]? = some t → T0 A B2 i t) ∧ ts.length ≤ v + 1) (fun k r ρ S4 q => ?_) (fun ρ S4 q => ?_) ⟨hc3, (hl1.trans hl2).trans hl3, [], _, _, _, _, rfl, rfl, fun i t h => (by simp at h), by simp⟩
  · obtain ⟨hc4, hl4, ts, s4, s5, s6, s7, rfl, er, ht, htl⟩ := q
    have hT : ts.length < v + 1 := by
      rcases Nat.lt_or_ge ts.length (v + 1) with h | h
      · exact h
      · rw [List.drop_eq_nil_of_le (by omega)] at er; cases er
    have hget : K[ts.length]? = some k := by
      have := congrArg (·[0]?) er
      simp only [List.getElem?_cons_zero, List.getElem?_drop, Nat.add_zero] at this
      exact this.symm
    have hK := hKg _ _ hget
    have er2 : r = K.drop (ts.length + 1) := by
      have := congrArg List.tail er
      rw [List.tail_cons, List.tail_drop] at this
      exact this
    refine ⟨_, rfl, ?_⟩
    have hkn := hk k (List.mem_of_getElem? hget)
    have kl : k.1.length + 2 ≤ L := by
      have : ∀ x ∈ TN, x.length + 2 ≤ L := by decide
      exact this _ hkn
    have kl' : 2 + k.1.length ≤ L := by omega
    have bs : ∀ x : Sg, binPV .add (.str [78, 111]) (.str x) = if 2 + x.length ≤ L then some (.str (78 :: 111 :: x)) else none := fun _ => rfl
    simp [-Bool.exists_bool, knP, bs, kl', L1, L2]
    refine (roll_ok (n := n + 6) F.roll hc4 (many := 3) (by omega) (by omega)).mono fun p S5 q => ?_
    obtain ⟨u, rfl, hu, hc5, hl5⟩ := q
    have hu62 : u < 2 ^ 62 := by omega
    simp [-Bool.exists_bool, hu62]
    rw [rngI_0]
    refine ok_form (fun i : Nat => .int (i : Int)) (fun q ρ S' => Cup S' ∧ Later S S' ∧ ∃ (cs : List Cr) (s7 : Slot) (j : Nat), ρ = [.val (.ref 0), .val (.int (1 + (v : Int))), .val (.lst (K.map knP)), .own (ts.map Tr.pv), .val (.str k.1), .val (.bl k.2), .own (cs.map Cr.pv), s7, .no, .no, .no] ∧ q = List.range' j (u - j) ∧ j ≤ u ∧ cs.map Cr.nm = ([78, 111] ++ k.1) :: (LT ts.length).take j ∧ ∀ c ∈ cs, c.fs.length ≤ 3 ∧ (∀ f ∈ c.fs, f.G ∧ f.New) ∧ (c.fs.map Fr.nm).Nodup) (fun i q ρ S6 z => ?_) (fun ρ S6 z => ?_) ⟨hc5, hl4.trans hl5, [⟨[78, 111] ++ k.1, []⟩], _, 0, rfl, by simp [List.range_eq_range'], by omega, by simp, fun c hc => by rw [List.mem_singleton.mp hc]; exact ⟨by simp, fun f h => (by cases h), by simp⟩⟩
    · obtain ⟨hc6, hl6, css, s7, j, rfl, ej, hju, hnm, hcs⟩ := z
      have hlt : j < u := by
        rcases Nat.lt_or_ge j u with h | h
        · exact h
        · rw [show u - j = 0 by omega] at ej; cases ej
      rw [show u - j = (u - (j + 1)) + 1 by omega, List.range'_succ, List.cons.injEq] at ej
      obtain ⟨rfl, rfl⟩ := ej
      refine ⟨_, rfl, ?_⟩
      have s3 : sml 3 = true := by decide
      have hL : ixPV (.str [65, 66, 67, 68, 69, 70, 71, 72]) (.int (3 * (ts.length : Int) + (i : Int))) = some (.str [65 + 3 * ts.length + i]) := by
        have : (3 * (ts.length : Int) + (i : Int)) = ((3 * ts.length + i : Nat) : Int) := by omega
        rw [this]
        show (if [65, 66, 67, 68, 69, 70, 71, 72].length ≤ L then (atPV [65, 66, 67, 68, 69, 70, 71, 72] ((3 * ts.length + i : Nat) : Int)).map fun c => PV.str [c] else none) = _
        rw [if_pos (by decide), at_nat]
        have h1 : ts.length < 3 := by omega
        have h2 : i < 2 := by omega
        rcases (by omega : ts.length = 0 ∨ ts.length = 1 ∨ ts.length = 2) with h | h | h <;> rw [h] <;> rcases (by omega : i = 0 ∨ i = 1) with rfl | rfl <;> rfl
      have cl : css.length < L := by
        have := congrArg List.length hnm
        simp only [List.length_map, List.length_cons, List.length_take] at this
        unfold L
        omega
      have lc := lcas_ok (cs := cs) (w := w) (n := n + 2) F hc6 [65 + 3 * ts.length + i] k.2 hk hkl
      simp [-Bool.exists_bool, s3, hL]
      refine lc.mono fun p S7 z => ?_
      obtain ⟨c, rfl, hcn, hc3', hcf, hcd, hc7, hl7⟩ := z
      simp [-Bool.exists_bool, cl]
      refine ⟨hc7, hl6.trans hl7, css ++ [c], by simp, i + 1, ⟨rfl, .inr rfl⟩, by omega, ?_, fun x hx => ?_⟩
      · rw [List.map_append, hnm, List.map_cons, List.map_nil, hcn]
        have h2 : i < 2 := by omega
        rcases (by omega : i = 0 ∨ i = 1) with rfl | rfl
        · simp [LT]
        · simp [LT]; omega
      · rcases List.mem_append.mp hx with h | h
        · exact hcs x h
        · rw [List.mem_singleton.mp h]; exact ⟨hc3', hcf, hcd⟩
    · obtain ⟨hc6, hl6, css, s7, j, rfl, ej, hju, hnm, hcs⟩ := z
      have tl : ts.length < L := by unfold L; omega
      simp [-Bool.exists_bool, L3, tl]
      refine ⟨hc6, hl6, ts ++ [⟨k.1, k.2, css⟩], by simp [Tr.pv], by simpa using er2, fun i t hi => ?_, by simp; omega⟩
      rcases Nat.lt_or_ge i ts.length with h | h
      · rw [List.getElem?_append_left h] at hi
        exact ht i t hi
      · rw [List.getElem?_append_right h] at hi
        have e0 : i - ts.length = 0 := by
          rcases Nat.eq_zero_or_pos (i - ts.length) with h' | h'
          · exact h'
          · rw [List.getElem?_eq_none (by simp; omega)] at hi; cases hi
        rw [e0] at hi
        simp only [List.getElem?_cons_zero, Option.some.injEq] at hi
        subst hi
        have : i = ts.length := by omega
        subst this
        exact ⟨hK, ⟨j, by omega, hnm⟩, hcs⟩
  · obtain ⟨hc4, hl4, ts, s4, s5, s6, s7, rfl, er, ht, htl⟩ := q
    have hlen : ts.length = K.length := by
      have := congrArg List.length er
      simp only [List.length_nil, List.length_drop] at this
      omega
    simp [-Bool.exists_bool]
    subst hKd
    exact rts S4 hc4 (1 + (v : Int)) _ hk hkl ts s4 s5 s6 s7 .no .no .no hl4 (fun rs h1 h2 => md0 (by omega) ht hlen h1 h2)
end
end Mn
end

section
set_option linter.all false
set_option autoImplicit false
set_option maxRecDepth 100000
set_option maxHeartbeats 1000000
/-! MnDrw4: rows mixed and kept. -/
namespace Mn
/-- a loop, its wish behind each turn told by what holds -/
theorem ok_formW {α : Type} {t : Tg} {b : Env → Sto → Res Fl} {Q : Fl → Sto → Prop} (g : α → PV) (Inv : List α → Env → Sto → Prop)
    (step : ∀ x r ρ S, Inv (x :: r) ρ S → ∃ ρ', asg t (g x) ρ = some ρ' ∧ ∀ W : Fl → Sto → Prop, (∀ ρ S, Inv r ρ S → W (.nx ρ) S) → (∀ ρ S, Inv r ρ S → W (.ct ρ) S) → (∀ p S, Q (.rt p) S → W (.rt p) S) → Ok (b ρ' S) W)
    (fin : ∀ ρ S, Inv [] ρ S → Q (.nx ρ) S) {xs : List α} {ρ : Env} {S : Sto} (h : Inv xs ρ S) : Ok (forL t b (xs.map g) ρ S) Q := by
  refine ok_form g Inv (fun x r ρ S q => ?_) fin h
  obtain ⟨ρ', e, k⟩ := step x r ρ S q
  exact ⟨ρ', e, k _ (fun ρ S h => h) (fun ρ S h => h) (fun p S h => h)⟩
section
variable {fns : List Fn} {cs : List PV} {w n : Nat} {o : CI} {S : Sto}
theorem cut_lo {α : Type} (xs : List α) (k : Nat) : cutS xs (some (k : Int)) none = xs.drop k := by
  unfold cutS slB
  have : ¬ (k : Int) < 0 := by omega
  simp only [this, if_false, Int.toNat_natCast]
  rcases Nat.le_total k xs.length with h | h
  · rw [show min k xs.length = k by omega]
    exact List.take_of_length_le (by simp)
  · rw [show min k xs.length = xs.length by omega, List.drop_eq_nil_of_le (Nat.le_refl _), List.drop_eq_nil_of_le h]
    simp
theorem cut_hi {α : Type} (xs : List α) (k : Nat) : cutS xs none (some (k : Int)) = xs.take k := by
  unfold cutS slB
  have : ¬ (k : Int) < 0 := by omega
  simp only [this, if_false, Int.toNat_natCast, List.drop_zero, Nat.sub_zero]
  rcases Nat.le_total k xs.length with h | h
  · rw [show min k xs.length = k by omega]
  · rw [show min k xs.length = xs.length by omega, List.take_of_length_le (Nat.le_refl _), List.take_of_length_le h]
/-- rows in another order -/
def MixW {α : Type} (g : α → PV) (as : List α) (S : Sto) (p : PV) (S' : Sto) : Prop := ∃ bs : List α, p = .lst (bs.map g) ∧ bs.Perm as ∧ Cup S' ∧ Later S S'
theorem lmix_ok (F : DrwF fns o) (hc : Cup S) {α : Type} (g : α → PV) (as : List α) (hl : as.length ≤ 1000) : Ok (callN fns cs w (n + 2) o.lmix [.ref 0, .lst (as.map g)] S) (MixW g as S) := by
  refine ok_call F.lmix rfl ?_
  have li : ∀ xs, listOf (.lst xs) = some xs := fun _ => rfl
  have L1 : ∀ m, m ≤ 2000 → m ≤ L := fun m h => by unfold L; omega
  have fin : ∀ (bs : List α) (S1 : Sto) (s3 : Slot), bs.Perm as → Cup S1 → Later S S1 → Ok (evSs (ctx fns cs w (n + 1)) ((lmixFn o).body.drop 2) [.val (.ref 0), .val (.lst (as.map g)), .val (.lst (bs.map g)), s3] S1) (lf (MixW g as S)) := by
    intro bs S1 s3 hp hc1 hl1
    simp [-Bool.exists_bool, lmixFn]
    refine (roll_ok (n := n) F.roll hc1 (many := 4) (by omega) (by omega)).mono fun p S2 q => ?_
    obtain ⟨v, rfl, hv, hc2, hl2⟩ := q
    by_cases h0 : v = 0
    · subst h0
      simp [-Bool.exists_bool]
      exact ⟨bs.reverse, by simp, (List.reverse_perm _).trans hp, hc2, hl1.trans hl2⟩
    · have h0' : ((v : Int) == 0) = false := by simpa using h0
      simp [-Bool.exists_bool, h0, h0']
      exact ⟨bs, rfl, hp, hc2, hl1.trans hl2⟩
  rw [show (lmixFn o).body = (lmixFn o).body.take 2 ++ (lmixFn o).body.drop 2 from rfl]
  generalize (lmixFn o).body.drop 2 = B at fin ⊢
  simp [-Bool.exists_bool, lmixFn, enter, li]
  by_cases h1 : 1 < as.length
  · have h1' : (1 : Int) < (as.length : Int) := by omega
    simp [-Bool.exists_bool, h1, h1']
    refine (roll_ok (n := n) F.roll hc (many := 2) (by omega) (by omega)).mono fun p S2 q => ?_
    obtain ⟨v, rfl, hv, hc2, hl2⟩ := q
    by_cases h0 : v = 0
    · subst h0
      simp [-Bool.exists_bool]
      refine (roll_ok (n := n) F.roll hc2 (many := (as.length : Int)) (by omega) (by omega)).mono fun p S3 q => ?_
      obtain ⟨k, rfl, hk, hc3, hl3⟩ := q
      have hll : (as.drop k).length + (as.take k).length ≤ L := L1 _ (by simp; omega)
      have e1 : cutS (as.map g) (some (k : Int)) none = (as.drop k).map g := by rw [cut_lo, List.map_drop]
      have e2 : cutS (as.map g) none (some (k : Int)) = (as.take k).map g := by rw [cut_hi, List.map_take]
      have hll2 : as.length - k + min k as.length ≤ L := by simpa using hll
      have f1 := fin (as.drop k ++ as.take k) S3 (.val (.int (k : Int))) (List.perm_append_comm.trans (by rw [List.take_append_drop])) hc3 (hl2.trans hl3)
      rw [List.map_append] at f1
      have hll3 : ((as.drop k).map g).length + ((as.take k).map g).length ≤ L := by simpa using hll2
      simp [-Bool.exists_bool, -List.map_drop, -List.map_take]
      rw [e1, e2]
      exact ⟨hll3, f1⟩
    · have h0' : ((v : Int) == 0) = false := by simpa using h0
      simp [-Bool.exists_bool, h0, h0']
      exact fin as S2 .no (List.Perm.refl _) hc2 hl2
  · have h1' : ¬ (1 : Int) < (as.length : Int) := by omega
    simp [-Bool.exists_bool, h1, h1']
    exact fin as S .no (List.Perm.refl _) hc (.refl S)
end
/-- rows kept of elder ones, and new ones -/
structure Kept (olds news : List Fr) : Prop where
  k : ∀ f ∈ news, ∀ i, f.sr = some i → ∃ q, olds[i]? = some q ∧ f.ty = q.ty ∧ ((f.td = none ∧ f.nm = q.nm) ∨ (f.td = some q.nm ∧ f.nm ∉ olds.map Fr.nm))
  n : ∀ f ∈ news, f.sr = none → f.td = none ∧ f.nm ∉ olds.map Fr.nm
  u : (news.filterMap Fr.sr).Nodup
  nd : (news.map Fr.nm).Nodup
  g : ∀ f ∈ news, f.G
theorem Kept.perm {olds a b : List Fr} (h : Kept olds a) (p : b.Perm a) : Kept olds b :=
  ⟨fun f hf => h.k f (p.mem_iff.mp hf), fun f hf => h.n f (p.mem_iff.mp hf), (p.filterMap _).nodup_iff.mpr h.u, (p.map _).nodup_iff.mpr h.nd, fun f hf => h.g f (p.mem_iff.mp hf)⟩
/-- .. one more, kept -/
theorem Kept.snoc {olds news : List Fr} (h : Kept olds news) {f : Fr} (g : f.G) (nn : f.nm ∉ news.map Fr.nm) {i : Nat} (hi : f.sr = some i) (hu : i ∉ news.filterMap Fr.sr) {q : Fr} (hq : olds[i]? = some q) (ht : f.ty = q.ty) (hn : (f.td = none ∧ f.nm = q.nm) ∨ (f.td = some q.nm ∧ f.nm ∉ olds.map Fr.nm)) : Kept olds (news ++ [f]) where
  k := fun x hx j hj => by
    rcases List.mem_append.mp hx with h' | h'
    · exact h.k x h' j hj
    · rw [List.mem_singleton.mp h'] at hj ⊢
      rw [hi] at hj
      cases hj
      exact ⟨q, hq, ht, hn⟩
  n := fun x hx hj => by
    rcases List.mem_append.mp hx with h' | h'
    · exact h.n x h' hj
    · rw [List.mem_singleton.mp h'] at hj
      rw [hi] at hj; cases hj
  u := by
    rw [List.filterMap_append]
    simp only [List.filterMap_cons, hi, List.filterMap_nil]
    rw [List.nodup_append]
    refine ⟨h.u, by simp, fun a ha b hb => ?_⟩
    simp only [List.mem_singleton] at hb
    subst hb
    exact fun z => hu (z ▸ ha)
  nd := by
    rw [List.map_append, List.nodup_append]
    refine ⟨h.nd, by simp, fun a ha b hb => ?_⟩
    simp only [List.map_cons, List.map_nil, List.mem_singleton] at hb
    subst hb
    exact fun z => nn (z ▸ ha)
  g := fun x hx => by
    rcases List.mem_append.mp hx with h' | h'
    · exact h.g x h'
    · rw [List.mem_singleton.mp h']; exact g
/-- .. one more, new -/
theorem Kept.snocN {olds news : List Fr} (h : Kept olds news) {f : Fr} (g : f.G) (nn : f.nm ∉ news.map Fr.nm) (hN : f.New) (ho : f.nm ∉ olds.map Fr.nm) : Kept olds (news ++ [f]) where
  k := fun x hx j hj => by
    rcases List.mem_append.mp hx with h' | h'
    · exact h.k x h' j hj
    · rw [List.mem_singleton.mp h', hN.sr] at hj; cases hj
  n := fun x hx hj => by
    rcases List.mem_append.mp hx with h' | h'
    · exact h.n x h' hj
    · rw [List.mem_singleton.mp h']; exact ⟨hN.td, ho⟩
  u := by
    rw [List.filterMap_append]
    simp only [List.filterMap_cons, hN.sr, List.filterMap_nil, List.append_nil]
    exact h.u
  nd := by
    rw [List.map_append, List.nodup_append]
    refine ⟨h.nd, by simp, fun a ha b hb => ?_⟩
    simp only [List.map_cons, List.map_nil, List.mem_singleton] at hb
    subst hb
    exact fun z => nn (z ▸ ha)
  g := fun x hx => by
    rcases List.mem_append.mp hx with h' | h'
    · exact h.g x h'
    · rw [List.mem_singleton.mp h']; exact g
theorem Kept.nil {olds : List Fr} : Kept olds [] := ⟨fun f h => (by cases h), fun f h => (by cases h), by simp, by simp, fun f h => (by cases h)⟩
def KepW (olds : List Fr) (S : Sto) (xs : List PV) (S' : Sto) : Prop := ∃ news, xs = news.map Fr.pv ∧ Kept olds news ∧ news.length ≤ olds.length ∧ (∀ f ∈ news, f.sr ≠ none) ∧ Cup S' ∧ Later S S'
section
variable {fns : List Fn} {cs : List PV} {w n : Nat} {o : CI} {S : Sto}
theorem lkep_ok (F : DrwF fns o) (hc : Cup S) (olds : List Fr) (hg : ∀ f ∈ olds, f.G) (hnd : (olds.map Fr.nm).Nodup) (hl : olds.length ≤ 5) (most : Nat) : Ok (callO fns cs w (n + 5) o.lkep [.ref 0, .lst (olds.map Fr.pv), .int (most : Int)] S) (KepW olds S) := by
  refine ok_callO F.lkep rfl ?_
  have L2 : 2 ≤ L := by decide
  have L5 : 5 ≤ L := by decide
  have hlL : olds.length ≤ L := by unfold L; omega
  have h62 : olds.length < 2 ^ 62 := by omega
  have ho : ∀ x ∈ olds.map Fr.nm, okS x = true := fun x hx => by
    obtain ⟨f, hf, rfl⟩ := List.mem_map.mp hx
    exact ok_names _ (hg f hf).nm
  simp [-Bool.exists_bool, lkepFn, enter, wipeE]
  refine ok_lcp Fr.pv (fun f => .str f.nm) hlL (fun f hf => ⟨_, rfl, by simp [evTs], by simp [-Bool.exists_bool]⟩) ?_
  rw [names_fr]
  have hOl : ((olds.map Fr.nm).map PV.str).length = olds.length := by simp
  have frO : ∀ (news : List Fr) (S3 : Sto), Cup S3 → Kept olds news → news.length ≤ 5 → Ok (callN fns cs w (n + 4) o.lfre [.ref 0, .lst ((olds.map Fr.nm).map .str ++ (news.map Fr.nm).map .str)] S3) fun p S' => ∃ x, p = .str x ∧ x ∈ NAMES ∧ x ∉ olds.map Fr.nm ∧ x ∉ news.map Fr.nm ∧ Cup S' ∧ Later S3 S' := fun news S3 h3 hk h5 => by
    have ht : ∀ x ∈ olds.map Fr.nm ++ news.map Fr.nm, okS x = true := fun x hx => by
      rcases List.mem_append.mp hx with h | h
      · exact ho x h
      · obtain ⟨f, hf, rfl⟩ := List.mem_map.mp h
        exact ok_names _ (hk.g f hf).nm
    have fr := lfre_ok (cs := cs) (w := w) (n := n + 1) F h3 ht (by simp; omega)
    rw [List.map_append] at fr
    refine fr.mono fun p S4 q => ?_
    obtain ⟨x, h1, h2, h4, h6⟩ := q
    rw [List.mem_append, not_or] at h4
    exact ⟨x, h1, h2, h4.1, h4.2, h6⟩
  generalize (olds.map Fr.nm).map PV.str = OS at frO hOl ⊢
  simp [-Bool.exists_bool, h62]
  rw [rngI_0]
  refine ok_formW (fun i : Nat => .int (i : Int)) (fun r ρ S' => Cup S' ∧ Later S S' ∧ ∃ (m : Nat) (news : List Fr) (s5 s6 s7 s8 s9 : Slot), ρ = [.val (.ref 0), .val (.lst (olds.map Fr.pv)), .val (.int (most : Int)), .own (news.map Fr.pv), .val (.lst OS), s5, s6, s7, s8, s9, .no] ∧ r = List.range' m (olds.length - m) ∧ m ≤ olds.length ∧ Kept olds news ∧ news.length ≤ m ∧ ∀ f ∈ news, ∃ i, f.sr = some i ∧ i < m) (fun i r ρ S2 q => ?_) (fun ρ S2 q => ?_) ⟨hc, .refl S, 0, [], _, _, _, _, _, rfl, by simp [List.range_eq_range'], by omega, .nil, by simp, fun f h => (by cases h)⟩
  · obtain ⟨hc2, hl2, m, news, s5, s6, s7, s8, s9, rfl, er, hm, hk, hnl, hsr⟩ := q
    have hlt : m < olds.length := by
      rcases Nat.lt_or_ge m olds.length with h | h
      · exact h
      · rw [show olds.length - m = 0 by omega] at er; cases er
    rw [show olds.length - m = (olds.length - (m + 1)) + 1 by omega, List.range'_succ, List.cons.injEq] at er
    obtain ⟨rfl, rfl⟩ := er
    refine ⟨_, rfl, fun W w1 w2 _ => ?_⟩
    obtain ⟨f, hf⟩ : ∃ f, olds[i]? = some f := ⟨_, List.getElem?_eq_getElem hlt⟩
    have fg := hg f (List.mem_of_getElem? hf)
    have ix : atPV (olds.map Fr.pv) (i : Int) = some f.pv := by rw [atm, hf]; rfl
    have hnL : news.length ≤ L := by unfold L; omega
    have hnL2 : news.length < L := by unfold L; omega
    have fr := fun S3 h3 => frO news S3 h3 hk (by omega)
    have nfr := names_fr news
    have hNl : ((news.map Fr.nm).map PV.str).length = news.length := by simp
    generalize (news.map Fr.nm).map PV.str = NS at fr nfr hNl
    have hcat : OS.length + NS.length ≤ L := by unfold L; omega
    -- the end of a turn, with a constant
    have tail : ∀ (c : PV) (v : Nat) (S3 : Sto), (c = .non ∨ isCt f.ty c) → Cup S3 → Later S S3 → Ok (evSs (ctx fns cs w (n + 4)) [(.ite (.cmp .eq (.e (.v 8)) (.e (.int 0))) [.cont] []), (.ite (.and (.cmp .eq (.e (.v 8)) (.e (.int 1))) (.cmp .lt (.e (.blt .len [(.e (.v 1))])) (.e (.v 2)))) [(.app 3 (.fr (.lst [(.call o.lfre [(.v 0), (.v 7)]), (.v 6), (.ix (.e (.ix (.e (.v 1)) (.v 5))) (.int 2)), (.v 9), (.v 5)])))] [(.app 3 (.fr (.lst [(.v 6), .non, (.ix (.e (.ix (.e (.v 1)) (.v 5))) (.int 2)), (.v 9), (.v 5)])))])]
        [.val (.ref 0), .val (.lst (olds.map Fr.pv)), .val (.int (most : Int)), .own (news.map Fr.pv), .val (.lst OS), .val (.int (i : Int)), .val (.str f.nm), .val (.lst (OS ++ NS)), .val (.int (v : Int)), .val c, .no] S3) W := by
      intro c v S3 hcc hc3 hl3
      have iu : i ∉ news.filterMap Fr.sr := fun h => by
        obtain ⟨x, hx, hxs⟩ := List.mem_filterMap.mp h
        obtain ⟨j, hj, hji⟩ := hsr x hx
        rw [hj] at hxs
        cases hxs
        omega
      by_cases h0 : v = 0
      · subst h0
        simp [-Bool.exists_bool]
        exact w2 _ _ ⟨hc3, hl3, i + 1, news, _, _, _, _, _, rfl, rfl, by omega, hk, by omega, fun f hf => by obtain ⟨j, h1, h2⟩ := hsr f hf; exact ⟨j, h1, by omega⟩⟩
      · have h0' : ((v : Int) == 0) = false := by simpa using h0
        by_cases h1 : v = 1 ∧ olds.length < most
        · have e1 : (v : Int) = 1 := by omega
          have e2 : (olds.length : Int) < (most : Int) := by omega
          simp [-Bool.exists_bool, h0, h0', e1, e2, h1.2]
          refine (fr S3 hc3).mono fun p S4 q => ?_
          obtain ⟨x, rfl, hx1, hx2, hx3, hc4, hl4⟩ := q
          simp [-Bool.exists_bool, ix, L5, hnL2]
          refine w1 _ _ ⟨hc4, hl3.trans hl4, i + 1, news ++ [⟨x, some f.nm, f.ty, c, some i⟩], _, _, _, _, _, by rw [List.map_append]; rfl, rfl, by omega, ?_, by simp; omega, fun y hy => ?_⟩
          · exact hk.snoc ⟨hx1, fun t h => (by cases h; exact fg.nm), fg.ty, hcc, fun j h => (by cases h; omega)⟩ hx3 rfl iu hf rfl (.inr ⟨rfl, hx2⟩)
          · rcases List.mem_append.mp hy with h | h
            · obtain ⟨j, h1, h2⟩ := hsr y h; exact ⟨j, h1, by omega⟩
            · rw [List.mem_singleton.mp h]; exact ⟨i, rfl, by omega⟩
        · have kk : f.nm ∉ news.map Fr.nm := fun h => by
            obtain ⟨x, hx, hxn⟩ := List.mem_map.mp h
            obtain ⟨j, hj, hji⟩ := hsr x hx
            obtain ⟨q, hq, _, hh⟩ := hk.k x hx j hj
            rcases hh with ⟨_, h1⟩ | ⟨_, h1⟩
            · have a1 : (olds.map Fr.nm)[j]? = some f.nm := by rw [List.getElem?_map, hq]; simp only [Option.map_some, Option.some.injEq]; rw [← h1]; exact hxn
              have a2 : (olds.map Fr.nm)[i]? = some f.nm := by rw [List.getElem?_map, hf]; rfl
              have := (List.getElem?_inj (List.getElem?_eq_some_iff.mp a1).1 hnd).mp (a1.trans a2.symm)
              omega
            · rw [hxn] at h1
              exact h1 (List.mem_map.mpr ⟨f, List.mem_of_getElem? hf, rfl⟩)
          have fin : ∀ s6 s7 s8 s9, W (.nx [.val (.ref 0), .val (.lst (olds.map Fr.pv)), .val (.int (most : Int)), .own (news.map Fr.pv ++ [.lst [.str f.nm, .non, f.ty.pv, c, .int (i : Int)]]), .val (.lst OS), .val (.int (i : Int)), s6, s7, s8, s9, .no]) S3 := fun s6 s7 s8 s9 => by
            refine w1 _ _ ⟨hc3, hl3, i + 1, news ++ [⟨f.nm, none, f.ty, c, some i⟩], _, _, _, _, _, by rw [List.map_append]; rfl, rfl, by omega, ?_, by simp; omega, fun y hy => ?_⟩
            · exact hk.snoc ⟨fg.nm, fun t h => (by cases h), fg.ty, hcc, fun j h => (by cases h; omega)⟩ kk rfl iu hf rfl (.inl ⟨rfl, rfl⟩)
            · rcases List.mem_append.mp hy with h | h
              · obtain ⟨j, h1, h2⟩ := hsr y h; exact ⟨j, h1, by omega⟩
              · rw [List.mem_singleton.mp h]; exact ⟨i, rfl, by omega⟩
          by_cases e1 : v = 1
          · have e2 : ¬ olds.length < most := fun h => h1 ⟨e1, h⟩
            subst e1
            simp [-Bool.exists_bool, e2, ix, L5, hnL2]
            exact fin _ _ _ _
          · have e1' : ((v : Int) == 1) = false := by simpa using (show ¬ (v : Int) = 1 by omega)
            have e1'' : ¬ (v : Int) = 1 := by omega
            simp [-Bool.exists_bool, h0, h0', e1, e1', e1'', ix, L5, hnL2]
            exact fin _ _ _ _
    rw [ok_scons]
    simp [-Bool.exists_bool, -ok_scons, wipeE, ix]
    refine ok_lcp Fr.pv (fun f => .str f.nm) hnL (fun f hf => ⟨_, rfl, by simp [evTs], by simp [-Bool.exists_bool]⟩) ?_
    rw [nfr]
    simp [-Bool.exists_bool, -ok_scons, hcat]
    rw [ok_scons]
    simp [-Bool.exists_bool, -ok_scons, ix]
    refine (roll_ok (n := n + 3) F.roll hc2 (many := 6) (by omega) (by omega)).mono fun p S3 q => ?_
    obtain ⟨v, rfl, hv, hc3, hl3⟩ := q
    have dc : ∀ S, dr S f.ct = f.ct := fun S => by
      rcases fg.ct with h | h
      · rw [h]; rfl
      · exact dr_flat (h.flat 60) S
    rw [ok_scons]
    simp [-Bool.exists_bool, -ok_scons, ix, dc]
    rcases fg.ct with h | h
    · rw [h]
      simp [-Bool.exists_bool, -ok_scons]
      exact tail .non v S3 (.inl rfl) hc3 (hl2.trans hl3)
    · have hn : cmpPV .isnot f.ct .non = some true := by
        rcases h with ⟨_, i, e, _⟩ | ⟨_, x, hx, e⟩ <;> rw [e] <;> rfl
      have hty : f.ty = .int ∨ f.ty = .text := by
        rcases h with ⟨e, _⟩ | ⟨e, _⟩
        · exact .inl e
        · exact .inr e
      simp [-Bool.exists_bool, -ok_scons, hn]
      refine (roll_ok (n := n + 3) F.roll hc3 (many := 3) (by omega) (by omega)).mono fun p S4 q => ?_
      obtain ⟨u, rfl, hu, hc4, hl4⟩ := q
      by_cases h0 : u = 0
      · subst h0
        simp [-Bool.exists_bool, -ok_scons]
        rw [ok_scons]
        simp [-Bool.exists_bool, -ok_scons, ix, L2]
        refine (lcon_ok (n := n + 1) F hc4 f.ty hty).mono fun c S5 q => ?_
        obtain ⟨hcc, hc5, hl5⟩ := q
        try simp [-Bool.exists_bool, -ok_scons, L2]
        refine (some_ok (n := n + 2) F.some_ F.roll hc5 (.inl rfl) (by simp) (by simp) (by simp)).mono fun p S6 q => ?_
        obtain ⟨hp, hc6, hl6⟩ := q
        simp only [List.mem_cons, List.not_mem_nil, or_false] at hp
        have : p = .non ∨ isCt f.ty p := by
          rcases hp with rfl | rfl
          · exact .inl rfl
          · exact .inr hcc
        try simp [-Bool.exists_bool, -ok_scons]
        exact tail p v S6 this hc6 ((((hl2.trans hl3).trans hl4).trans hl5).trans hl6)
      · have h0' : ((u : Int) == 0) = false := by simpa using h0
        simp [-Bool.exists_bool, -ok_scons, h0, h0']
        exact tail f.ct v S4 (.inr h) hc4 ((hl2.trans hl3).trans hl4)
  · obtain ⟨hc2, hl2, m, news, s5, s6, s7, s8, s9, rfl, er, hm, hk, hnl, hsr⟩ := q
    simp [-Bool.exists_bool]
    exact ⟨news, rfl, hk, by omega, fun f hf h => (by obtain ⟨j, h1, _⟩ := hsr f hf; rw [h] at h1; cases h1), hc2, hl2⟩
end
end Mn
end

section
set_option linter.all false
set_option autoImplicit false
set_option maxRecDepth 100000
set_option maxHeartbeats 1000000
/-! MnDrw5: the next program, drawn: cases and types. -/
namespace Mn
/-- a field that is kept or new, the new ones with a constant -/
structure KeptF (olds news : List Fr) : Prop where
  k : Kept olds news
  c : ∀ f ∈ news, f.sr = none → isCt f.ty f.ct
theorem KeptF.perm {olds a b : List Fr} (h : KeptF olds a) (p : b.Perm a) : KeptF olds b := ⟨h.k.perm p, fun f hf => h.c f (p.mem_iff.mp hf)⟩
structure CR (c c' : Cr) : Prop where
  nm : c'.nm = c.nm
  len : c'.fs.length ≤ 4
  k : KeptF c.fs c'.fs
theorem CR.g {t : Sg} {c c' : Cr} (h : CR c c') (g : c.G t) : c'.G t := ⟨by rw [h.nm]; exact g.nm, h.len, h.k.k.nd, h.k.k.g⟩
def Sfb : Mn.S → List Mn.S
  | .for _ _ b => b
  | .ite _ a _ => a
  | _ => []
def nxtT (o : CI) : List Mn.S := Sfb ((lnxtFn o).body.getD 2 .pass)
def nxtC (o : CI) : List Mn.S := Sfb ((nxtT o).getD 1 .pass)
def nxtL (o : CI) : List Mn.S := Sfb ((nxtT o).getD 2 .pass)
section
variable {fns : List Fn} {cs : List PV} {w n : Nat} {o : CI} {S : Sto}
/-- one case -/
theorem nxt_case (F : DrwF fns o) (hc : Cup S) {c : Cr} {t : Sg} (g : c.G t) {ks : List Kn} (hk : ∀ k ∈ ks, k.1 ∈ TN) (hkl : ks.length ≤ 100) (mv v4 v6 : PV) (has : Bool) (TS RS : List PV) (hRS : RS.length < L) (s9 s10 s11 s12 s13 s14 s15 s16 : Slot) {S0 : Sto} (h0 : Later S0 S) {W : Fl → Sto → Prop}
    (w1 : ∀ (c' : Cr) (S' : Sto) (s9 s10 : Slot), CR c c' → Cup S' → Later S0 S' → W (.nx [.val (.ref 0), .val mv, .val (.lst (ks.map knP)), .own TS, .val v4, .val (.bl has), .val v6, .own (RS ++ [c'.pv]), .val c.pv, s9, s10, s11, s12, s13, s14, s15, s16]) S') :
    Ok (evSs (ctx fns cs w (n + 6)) (nxtC o) [.val (.ref 0), .val mv, .val (.lst (ks.map knP)), .own TS, .val v4, .val (.bl has), .val v6, .own RS, .val c.pv, s9, s10, s11, s12, s13, s14, s15, s16] S) W := by
  have L2 : 2 ≤ L := by decide
  have gl := g.len
  have hcl : c.fs.length ≤ L := by unfold L; omega
  have ho : ∀ x ∈ c.fs.map Fr.nm, okS x = true := fun x hx => by
    obtain ⟨f, hf, rfl⟩ := List.mem_map.mp hx
    exact ok_names _ (g.fs f hf).nm
  -- the end: the fields mixed, the case put
  have fin : ∀ (news : List Fr) (S3 : Sto) (s10 : Slot), KeptF c.fs news → news.length ≤ 4 → Cup S3 → Later S0 S3 → Ok (evSs (ctx fns cs w (n + 6)) ((nxtC o).drop 3) [.val (.ref 0), .val mv, .val (.lst (ks.map knP)), .own TS, .val v4, .val (.bl has), .val v6, .own RS, .val c.pv, .own (news.map Fr.pv), s10, s11, s12, s13, s14, s15, s16] S3) W := by
    intro news S3 s10 hk1 hl1 hc3 hl3
    simp [-Bool.exists_bool, nxtC, nxtT, Sfb, lnxtFn]
    refine (lmix_ok (n := n + 4) F hc3 Fr.pv news (by omega)).mono fun p S4 q => ?_
    obtain ⟨bs, rfl, hp, hc4, hl4⟩ := q
    simp [-Bool.exists_bool, L2, hRS]
    exact w1 ⟨c.nm, bs⟩ S4 _ _ ⟨rfl, by rw [show (Cr.mk c.nm bs).fs = bs from rfl, hp.length_eq]; exact hl1, hk1.perm hp⟩ hc4 (hl3.trans hl4)
  rw [show nxtC o = (nxtC o).take 3 ++ (nxtC o).drop 3 from rfl]
  generalize (nxtC o).drop 3 = B at fin ⊢
  simp [-Bool.exists_bool, -ok_scons, nxtC, nxtT, Sfb, lnxtFn]
  rw [ok_scons]
  try simp [-Bool.exists_bool, -ok_scons]
  refine (lkep_ok (cs := cs) (w := w) (n := n + 1) F hc c.fs g.fs g.nd (by omega) 4).mono fun xs S1 q => ?_
  obtain ⟨news, rfl, hk1, hnl, hns, hc1, hl1⟩ := q
  have hnl4 : news.length ≤ 4 := by omega
  have hnL : news.length ≤ L := by unfold L; omega
  have hcat : ((c.fs.map Fr.nm).map PV.str).length + ((news.map Fr.nm).map PV.str).length ≤ L := by simp; unfold L; omega
  try simp [-Bool.exists_bool, -ok_scons]
  rw [ok_scons]
  simp [-Bool.exists_bool, -ok_scons, wipeE]
  refine ok_lcp Fr.pv (fun f => .str f.nm) hcl (fun f hf => ⟨_, rfl, by simp [evTs], by simp [-Bool.exists_bool]⟩) ?_
  rw [names_fr]
  have htk : ∀ x ∈ c.fs.map Fr.nm ++ news.map Fr.nm, okS x = true := fun x hx => by
    rcases List.mem_append.mp hx with h | h
    · exact ho x h
    · obtain ⟨f, hf, rfl⟩ := List.mem_map.mp h
      exact ok_names _ (hk1.g f hf).nm
  have htl : (c.fs.map Fr.nm ++ news.map Fr.nm).length ≤ 12 := by simp; omega
  have fld := fun S3 (h3 : Cup S3) => lfld_ok (cs := cs) (w := w) (n := n + 2) F h3 htk htl has true hk hkl
  rw [List.map_append] at fld
  have nf := names_fr news
  generalize (c.fs.map Fr.nm).map PV.str = A1 at fld hcat ⊢
  generalize (news.map Fr.nm).map PV.str = A2 at fld nf hcat
  try simp [-Bool.exists_bool, -ok_scons]
  refine ok_lcp Fr.pv (fun f => .str f.nm) hnL (fun f hf => ⟨_, rfl, by simp [evTs], by simp [-Bool.exists_bool]⟩) ?_
  rw [nf]
  simp [-Bool.exists_bool, -ok_scons, hcat]
  rw [ok_scons]
  have hkF : KeptF c.fs news := ⟨hk1, fun f hf h => absurd h (hns f hf)⟩
  by_cases h4 : news.length < 4
  · have h4' : (news.length : Int) < 4 := by omega
    simp [-Bool.exists_bool, -ok_scons, h4, h4']
    refine (roll_ok (n := n + 5) F.roll hc1 (many := 2) (by omega) (by omega)).mono fun p S3 q => ?_
    obtain ⟨v, rfl, hv, hc3, hl3⟩ := q
    by_cases hz : v = 0
    · subst hz
      have hnl2 : news.length < L := by unfold L; omega
      try simp [-Bool.exists_bool, -ok_scons]
      rw [ok_scons]
      try simp [-Bool.exists_bool, -ok_scons]
      refine (fld S3 hc3).mono fun p S4 q => ?_
      obtain ⟨f, rfl, g1, g2, g3, g4, g5, hc4, hl4⟩ := q
      rw [List.mem_append, not_or] at g2
      simp [-Bool.exists_bool, -ok_scons, hnl2]
      have e : (news ++ [f]).map Fr.pv = news.map Fr.pv ++ [f.pv] := by simp
      have := fin (news ++ [f]) S4 (.val (.lst (A1 ++ A2))) ⟨hk1.snocN g1 g2.2 ⟨g3, g4⟩ g2.1, fun x hx hs => by
        rcases List.mem_append.mp hx with h | h
        · exact absurd hs (hns x h)
        · rw [List.mem_singleton.mp h]; exact g5 rfl⟩ (by simp; omega) hc4 (((h0.trans hl1).trans hl3).trans hl4)
      rw [e] at this
      try simp [-Bool.exists_bool, -ok_scons]
      exact this
    · have hz' : ((v : Int) == 0) = false := by simpa using hz
      simp [-Bool.exists_bool, -ok_scons, hz, hz']
      exact fin news S3 _ hkF hnl4 hc3 ((h0.trans hl1).trans hl3)
  · have h4' : ¬ (news.length : Int) < 4 := by omega
    simp [-Bool.exists_bool, -ok_scons, h4, h4']
    exact fin news S1 _ hkF hnl4 hc1 (h0.trans hl1)
end
end Mn
end

section
set_option linter.all false
set_option autoImplicit false
set_option maxRecDepth 100000
set_option maxHeartbeats 1000000
/-! MnDrw6: the next program, drawn: new cases, a type. -/
namespace Mn
/-- a case that comes new -/
structure NewC (t : Sg) (cases : List Cr) (c : Cr) : Prop where
  nm : c.nm ∈ cn t
  nn : c.nm ∉ cases.map Cr.nm
  len : c.fs.length ≤ 3
  fs : ∀ f ∈ c.fs, f.G ∧ f.New
  nd : (c.fs.map Fr.nm).Nodup
theorem NewC.g {t : Sg} {cases : List Cr} {c : Cr} (h : NewC t cases c) : c.G t := ⟨h.nm, by have := h.len; omega, h.nd, fun f hf => (h.fs f hf).1⟩
/-- no case more, or one new one -/
def More (t : Sg) (cases more : List Cr) : Prop := more = [] ∨ ∃ c, more = [c] ∧ NewC t cases c ∧ cases.length < 3
theorem names_cr (fs : List Cr) : (fs.map fun f => PV.str f.nm) = (fs.map Cr.nm).map .str := by simp [List.map_map, Function.comp_def]
section
variable {fns : List Fn} {cs : List PV} {w n : Nat} {o : CI} {S : Sto}
theorem nxt_letters (F : DrwF fns o) (hc : Cup S) {t : Sg} (ht : t ∈ TN) {cases rows : List Cr} (hcn : ∀ c ∈ cases, c.nm ∈ cn t) (hcl : cases.length ≤ 3) (hrl : rows.length = cases.length) {ks : List Kn} (hk : ∀ k ∈ ks, k.1 ∈ TN) (hkl : ks.length ≤ 100) (mv : PV) (has : Bool) (TS : List PV) (s8 s9 s10 s11 s12 s13 s14 s15 s16 : Slot) {S0 : Sto} (h0 : Later S0 S) {W : Fl → Sto → Prop}
    (w1 : ∀ (more : List Cr) (S' : Sto) (s11 s12 : Slot), More t cases more → Cup S' → Later S0 S' → W (.nx [.val (.ref 0), .val mv, .val (.lst (ks.map knP)), .own TS, .val (.str t), .val (.bl has), .val (.lst (cases.map Cr.pv)), .own ((rows ++ more).map Cr.pv), s8, s9, s10, s11, s12, s13, s14, s15, s16]) S') :
    Ok (evS (ctx fns cs w (n + 6)) ((nxtT o).getD 2 .pass) [.val (.ref 0), .val mv, .val (.lst (ks.map knP)), .own TS, .val (.str t), .val (.bl has), .val (.lst (cases.map Cr.pv)), .own (rows.map Cr.pv), s8, s9, s10, s11, s12, s13, s14, s15, s16] S) W := by
  have L3 : 3 ≤ L := by decide
  have hcL : cases.length ≤ L := by unfold L; omega
  have no : ∀ (S' : Sto), Cup S' → Later S S' → W (.nx [.val (.ref 0), .val mv, .val (.lst (ks.map knP)), .own TS, .val (.str t), .val (.bl has), .val (.lst (cases.map Cr.pv)), .own (rows.map Cr.pv), s8, s9, s10, s11, s12, s13, s14, s15, s16]) S' := fun S' h1 h2 => by
    have := w1 [] S' s11 s12 (.inl rfl) h1 (h0.trans h2)
    rwa [List.append_nil] at this
  simp only [nxtT, Sfb, lnxtFn, List.getD_cons_succ, List.getD_cons_zero]
  by_cases h3 : cases.length < 3
  · have h3' : (cases.length : Int) < 3 := by omega
    simp [-Bool.exists_bool, h3, h3', -ok_scons]
    refine (roll_ok (n := n + 5) F.roll hc (many := 4) (by omega) (by omega)).mono fun p S1 q => ?_
    obtain ⟨v, rfl, hv, hc1, hl1⟩ := q
    by_cases hz : v = 0
    · subst hz
      simp [-Bool.exists_bool, -ok_scons]
      rw [ok_scons]
      simp [-Bool.exists_bool, -ok_scons, wipeE]
      refine ok_lcp Cr.pv (fun f => .str f.nm) hcL (fun f hf => ⟨_, rfl, by simp [evTs], by simp [-Bool.exists_bool]⟩) ?_
      rw [names_cr]
      have hon : ∀ x ∈ cases.map Cr.nm, okS x = true := fun x hx => by
        obtain ⟨c, hc, rfl⟩ := List.mem_map.mp hx
        exact ok_cn t ht _ (hcn c hc)
      have isn := fun x (hx : x ∈ cn t) => notin_ok (ok_cn t ht x hx) hon
      generalize (cases.map Cr.nm).map PV.str = NN at isn ⊢
      have tl : 1 + t.length ≤ L := by
        have : ∀ x ∈ TN, 1 + x.length ≤ L := by decide
        exact this t ht
      have ba : ∀ (a : Nat), binPV .add (.str [a]) (.str t) = some (.str ([a] ++ t)) := fun a => by
        show (if [a].length + t.length ≤ L then some (PV.str ([a] ++ t)) else none) = _
        rw [if_pos (by simpa using tl)]
      try simp [-Bool.exists_bool, -ok_scons]
      rw [ok_scons]
      simp [-Bool.exists_bool, -ok_scons, ba, L3, -List.cons_append, -List.nil_append]
      refine ok_formW (xs := [[65] ++ t, [66] ++ t, [67] ++ t]) PV.str (fun r ρ S' => Cup S' ∧ Later S S' ∧ (∀ x ∈ r, x ∈ cn t) ∧ ∃ (more : List Cr) (s12 : Slot), ρ = [.val (.ref 0), .val mv, .val (.lst (ks.map knP)), .own TS, .val (.str t), .val (.bl has), .val (.lst (cases.map Cr.pv)), .own ((rows ++ more).map Cr.pv), s8, s9, s10, .val (.lst NN), s12, s13, s14, s15, s16] ∧ More t cases more) (fun x r ρ S2 q => ?_) (fun ρ S2 q => ?_) ⟨hc1, hl1, fun x hx => ?_, [], _, by rw [List.append_nil], .inl rfl⟩
      · obtain ⟨hc2, hl2, hxr, more, s12', rfl, hm⟩ := q
        have hx := hxr x List.mem_cons_self
        have hxr' : ∀ y ∈ r, y ∈ cn t := fun y hy => hxr y (List.mem_cons_of_mem _ hy)
        have ix := isn x hx
        refine ⟨_, rfl, fun W' w1' _ _ => ?_⟩
        have go : ∀ s12, W' (.nx [.val (.ref 0), .val mv, .val (.lst (ks.map knP)), .own TS, .val (.str t), .val (.bl has), .val (.lst (cases.map Cr.pv)), .own ((rows ++ more).map Cr.pv), s8, s9, s10, .val (.lst NN), s12, s13, s14, s15, s16]) S2 := fun s12 => w1' _ _ ⟨hc2, hl2, hxr', more, s12, rfl, hm⟩
        by_cases hin : (cases.map Cr.nm).contains x = true
        · simp only [hin, Bool.not_true] at ix
          simp [-Bool.exists_bool, ix, -List.map_append]
          exact go _
        · have hin' : (cases.map Cr.nm).contains x = false := by simpa using hin
          simp only [hin', Bool.not_false] at ix
          rcases hm with rfl | ⟨c, rfl, hcn', hc3'⟩
          · have el : ((rows.length : Int) == (cases.length : Int)) = true := by simp [hrl]
            have rL : rows.length < L := by unfold L; omega
            have lc := lcas_ok (cs := cs) (w := w) (n := n + 1) F hc2 x has hk hkl
            simp only [List.append_nil] at go ⊢
            simp [-Bool.exists_bool, ix, hrl]
            refine lc.mono fun p S3 q => ?_
            obtain ⟨c, rfl, e1, e2, e3, e4, hc3, hl3⟩ := q
            try simp [-Bool.exists_bool, rL]
            have hrL : cases.length < L := by omega
            refine ⟨hrL, w1' _ _ ⟨hc3, hl2.trans hl3, hxr', [c], _, by rw [List.map_append]; rfl, .inr ⟨c, rfl, ⟨by rw [e1]; exact hx, by rw [e1]; simpa using hin', e2, e3, e4⟩, h3⟩⟩⟩
          · have el : ¬ ((rows.length : Int) + 1 = (cases.length : Int)) := by omega
            have el2 : ¬ (rows.length + 1 = cases.length) := by omega
            have el3 : ¬ ((cases.length : Int) + 1 = (cases.length : Int)) := by omega
            simp [-Bool.exists_bool, ix, hrl, el, el2, el3]
            have := go (.val (.str x))
            simpa using this
      · obtain ⟨hc2, hl2, _, more, s12', rfl, hm⟩ := q
        simp only [sq_nx, ok_snil]
        exact w1 more S2 _ _ hm hc2 (h0.trans hl2)
      · simp only [List.mem_cons, List.not_mem_nil, or_false] at hx
        unfold cn
        rcases hx with rfl | rfl | rfl <;> simp
    · have hz' : ((v : Int) == 0) = false := by simpa using hz
      simp [-Bool.exists_bool, -ok_scons, hz, hz']
      exact no S1 hc1 hl1
  · have h3' : ¬ (cases.length : Int) < 3 := by omega
    simp [-Bool.exists_bool, h3, h3', -ok_scons]
    exact no S hc (.refl S)
end
end Mn
end

section
set_option linter.all false
set_option autoImplicit false
set_option maxRecDepth 100000
set_option maxHeartbeats 1000000
/-! MnDrw7: the next program, drawn: a type. -/
namespace Mn
structure TR (T T' : Tr) : Prop where
  nm : T'.nm = T.nm
  has : T'.has = T.has
  fw : ∀ c ∈ T.cs, ∃ c' ∈ T'.cs, CR c c'
  bw : ∀ c' ∈ T'.cs, (∃ c ∈ T.cs, CR c c') ∨ NewC T.nm T.cs c'
  g : T'.G
/-- rows of cases, one for each -/
structure Al (done rows : List Cr) : Prop where
  nm : rows.map Cr.nm = done.map Cr.nm
  fw : ∀ c ∈ done, ∃ c' ∈ rows, CR c c'
  bw : ∀ c' ∈ rows, ∃ c ∈ done, CR c c'
theorem Al.snoc {done rows : List Cr} (h : Al done rows) {c c' : Cr} (k : CR c c') : Al (done ++ [c]) (rows ++ [c']) where
  nm := by rw [List.map_append, List.map_append, h.nm]; simp [k.nm]
  fw := fun x hx => by
    rcases List.mem_append.mp hx with h' | h'
    · obtain ⟨y, h1, h2⟩ := h.fw x h'
      exact ⟨y, List.mem_append_left _ h1, h2⟩
    · rw [List.mem_singleton.mp h']
      exact ⟨c', by simp, k⟩
  bw := fun x hx => by
    rcases List.mem_append.mp hx with h' | h'
    · obtain ⟨y, h1, h2⟩ := h.bw x h'
      exact ⟨y, List.mem_append_left _ h1, h2⟩
    · rw [List.mem_singleton.mp h']
      exact ⟨c, by simp, k⟩
theorem tr_of {T : Tr} (g : T.G) {rows more : List Cr} (a : Al T.cs rows) (m : More T.nm T.cs more) {bs : List Cr} (p : bs.Perm (rows ++ more)) : TR T ⟨T.nm, T.has, bs⟩ where
  nm := rfl
  has := rfl
  fw := fun c hc => by
    obtain ⟨c', h1, h2⟩ := a.fw c hc
    exact ⟨c', p.mem_iff.mpr (List.mem_append_left _ h1), h2⟩
  bw := fun c' hc => by
    rcases List.mem_append.mp (p.mem_iff.mp hc) with h | h
    · exact .inl (a.bw c' h)
    · rcases m with rfl | ⟨d, rfl, hd, _⟩
      · cases h
      · rw [List.mem_singleton.mp h]; exact .inr hd
  g := by
    have hl : rows.length = T.cs.length := by have := congrArg List.length a.nm; simpa using this
    have gl := g.len
    refine ⟨g.nm, ?_, ?_, fun c hc => ?_⟩
    · show bs.length ≤ 3
      rw [p.length_eq, List.length_append]
      rcases m with rfl | ⟨d, rfl, _, h3⟩ <;> simp <;> omega
    · show (bs.map Cr.nm).Nodup
      rw [(p.map _).nodup_iff, List.map_append, a.nm]
      rcases m with rfl | ⟨d, rfl, hd, _⟩
      · simpa using g.nd
      · rw [List.nodup_append]
        refine ⟨g.nd, by simp, fun x hx y hy => ?_⟩
        simp only [List.map_cons, List.map_nil, List.mem_singleton] at hy
        subst hy
        exact fun z => hd.nn (z ▸ hx)
    · show c.G T.nm
      rcases List.mem_append.mp (p.mem_iff.mp hc) with h | h
      · obtain ⟨d, h1, h2⟩ := a.bw c h
        exact h2.g (g.cs d h1)
      · rcases m with rfl | ⟨d, rfl, hd, _⟩
        · cases h
        · rw [List.mem_singleton.mp h]; exact hd.g
section
variable {fns : List Fn} {cs : List PV} {w n : Nat} {o : CI} {S : Sto}
theorem nxt_type (F : DrwF fns o) (hc : Cup S) {T : Tr} (g : T.G) {ks : List Kn} (hk : ∀ k ∈ ks, k.1 ∈ TN) (hkl : ks.length ≤ 100) (mv : PV) (TS : List PV) (hTS : TS.length < L) (s7 s8 s9 s10 s11 s12 s13 s14 s15 s16 : Slot) {S0 : Sto} (h0 : Later S0 S) {W : Fl → Sto → Prop}
    (w1 : ∀ (T' : Tr) (S' : Sto) (s7 s8 s9 s10 s11 s12 : Slot), TR T T' → Cup S' → Later S0 S' → W (.nx [.val (.ref 0), .val mv, .val (.lst (ks.map knP)), .own (TS ++ [T'.pv]), .val (.str T.nm), .val (.bl T.has), .val (.lst (T.cs.map Cr.pv)), s7, s8, s9, s10, s11, s12, s13, s14, s15, s16]) S') :
    Ok (evSs (ctx fns cs w (n + 6)) (nxtT o) [.val (.ref 0), .val mv, .val (.lst (ks.map knP)), .own TS, .val (.str T.nm), .val (.bl T.has), .val (.lst (T.cs.map Cr.pv)), s7, s8, s9, s10, s11, s12, s13, s14, s15, s16] S) W := by
  have L3 : 3 ≤ L := by decide
  have gl := g.len
  -- the end
  have fin : ∀ (rows more : List Cr) (S3 : Sto) (s8 s9 s10 s11 s12 : Slot), Al T.cs rows → More T.nm T.cs more → Cup S3 → Later S0 S3 → Ok (evSs (ctx fns cs w (n + 6)) ((nxtT o).drop 3) [.val (.ref 0), .val mv, .val (.lst (ks.map knP)), .own TS, .val (.str T.nm), .val (.bl T.has), .val (.lst (T.cs.map Cr.pv)), .own ((rows ++ more).map Cr.pv), s8, s9, s10, s11, s12, s13, s14, s15, s16] S3) W := by
    intro rows more S3 s8 s9 s10 s11 s12 ha hm hc3 hl3
    have hl : rows.length = T.cs.length := by have := congrArg List.length ha.nm; simpa using this
    have hlen : (rows ++ more).length ≤ 1000 := by
      rw [List.length_append]
      rcases hm with rfl | ⟨d, rfl, _, _⟩ <;> simp <;> omega
    have mx := lmix_ok (cs := cs) (w := w) (n := n + 4) F hc3 Cr.pv (rows ++ more) hlen
    simp [-Bool.exists_bool, nxtT, Sfb, lnxtFn, -List.map_append]
    refine mx.mono fun p S4 q => ?_
    obtain ⟨bs, rfl, hp, hc4, hl4⟩ := q
    simp [-Bool.exists_bool, L3, hTS]
    exact w1 ⟨T.nm, T.has, bs⟩ S4 _ _ _ _ _ _ (tr_of g ha hm hp) hc4 (hl3.trans hl4)
  have lett := fun (rows : List Cr) (S3 : Sto) (hc3 : Cup S3) (hl3 : Later S0 S3) (ha : Al T.cs rows) (s8 s9 s10 s11 s12 : Slot) (W' : Fl → Sto → Prop) => @nxt_letters fns cs w n o S3 F hc3 T.nm g.nm T.cs rows (fun c hc => (g.cs c hc).nm) gl (by have := congrArg List.length ha.nm; simpa using this) ks hk hkl mv T.has TS s8 s9 s10 s11 s12 s13 s14 s15 s16 S0 hl3 W'
  have cas := fun (S3 : Sto) (hc3 : Cup S3) (hl3 : Later S0 S3) (c : Cr) (hcg : c.G T.nm) (RS : List PV) (hRS : RS.length < L) (s9 s10 s11 s12 : Slot) (W' : Fl → Sto → Prop) => @nxt_case fns cs w n o S3 F hc3 c T.nm hcg ks hk hkl mv (.str T.nm) (.lst (T.cs.map Cr.pv)) T.has TS RS hRS s9 s10 s11 s12 s13 s14 s15 s16 S0 hl3 W'
  rw [show nxtT o = [.setO 7 (.lst []), .for (.nm 8) (.sq (.e (.v 6))) (nxtC o), (nxtT o).getD 2 .pass] ++ (nxtT o).drop 3 from rfl]
  generalize (nxtT o).drop 3 = B at fin ⊢
  generalize (nxtT o).getD 2 .pass = B2 at lett ⊢
  generalize nxtC o = B1 at cas ⊢
  simp only [List.cons_append, List.nil_append]
  rw [ok_scons]
  simp [-Bool.exists_bool, -ok_scons]
  rw [ok_scons]
  simp [-Bool.exists_bool, -ok_scons]
  refine ok_formW Cr.pv (fun r ρ S' => Cup S' ∧ Later S0 S' ∧ ∃ (done rows : List Cr) (s8 s9 s10 : Slot), ρ = [.val (.ref 0), .val mv, .val (.lst (ks.map knP)), .own TS, .val (.str T.nm), .val (.bl T.has), .val (.lst (T.cs.map Cr.pv)), .own (rows.map Cr.pv), s8, s9, s10, s11, s12, s13, s14, s15, s16] ∧ done ++ r = T.cs ∧ Al done rows) (fun c r ρ S2 q => ?_) (fun ρ S2 q => ?_) ⟨hc, h0, [], [], _, _, _, rfl, rfl, ⟨rfl, fun c h => (by cases h), fun c h => (by cases h)⟩⟩
  · obtain ⟨hc2, hl2, done, rows, s8, s9, s10, rfl, he, ha⟩ := q
    have hcm : c ∈ T.cs := by rw [← he]; simp
    have hrl : rows.length = done.length := by have := congrArg List.length ha.nm; simpa using this
    have hdl : done.length ≤ T.cs.length := by rw [← he]; simp
    refine ⟨_, rfl, fun W' w1' _ _ => ?_⟩
    refine cas S2 hc2 hl2 c (g.cs c hcm) (rows.map Cr.pv) (by simp; unfold L; omega) s9 s10 s11 s12 W' fun c' S3 t9 t10 k hc3 hl3 => ?_
    exact w1' _ _ ⟨hc3, hl3, done ++ [c], rows ++ [c'], _, _, _, by rw [List.map_append]; rfl, by simpa using he, ha.snoc k⟩
  · obtain ⟨hc2, hl2, done, rows, s8, s9, s10, rfl, he, ha⟩ := q
    rw [List.append_nil] at he
    subst he
    simp only [sq_nx]
    rw [ok_scons]
    refine lett rows S2 hc2 hl2 ha s8 s9 s10 s11 s12 _ fun more S3 t11 t12 hm hc3 hl3 => ?_
    simp only [sq_nx]
    exact fin rows more S3 _ _ _ _ _ ha hm hc3 hl3
end
end Mn
end

section
set_option linter.all false
set_option autoImplicit false
set_option maxRecDepth 100000
set_option maxHeartbeats 1000000
/-! MnDrw8: the next program, drawn; a chain. -/
namespace Mn
/-- a type that comes new -/
structure NewT (a : Md) (T : Tr) : Prop where
  nn : T.nm ∉ a.ts.map Tr.nm
  cs : ∃ x, T.cs = [⟨x, []⟩]
structure Nx (a b : Md) : Prop where
  fw : ∀ T ∈ a.ts, ∃ T' ∈ b.ts, TR T T'
  bw : ∀ T' ∈ b.ts, (∃ T ∈ a.ts, TR T T') ∨ NewT a T'
  rs : Kept a.rs b.rs
structure AlT (done ts : List Tr) : Prop where
  nm : ts.map Tr.nm = done.map Tr.nm
  fw : ∀ c ∈ done, ∃ c' ∈ ts, TR c c'
  bw : ∀ c' ∈ ts, ∃ c ∈ done, TR c c'
theorem AlT.snoc {done rows : List Tr} (h : AlT done rows) {c c' : Tr} (k : TR c c') : AlT (done ++ [c]) (rows ++ [c']) where
  nm := by rw [List.map_append, List.map_append, h.nm]; simp [k.nm]
  fw := fun x hx => by
    rcases List.mem_append.mp hx with h' | h'
    · obtain ⟨y, h1, h2⟩ := h.fw x h'
      exact ⟨y, List.mem_append_left _ h1, h2⟩
    · rw [List.mem_singleton.mp h']
      exact ⟨c', by simp, k⟩
  bw := fun x hx => by
    rcases List.mem_append.mp hx with h' | h'
    · obtain ⟨y, h1, h2⟩ := h.bw x h'
      exact ⟨y, List.mem_append_left _ h1, h2⟩
    · rw [List.mem_singleton.mp h']
      exact ⟨c, by simp, k⟩
def newT (m : Nat) : Tr := ⟨NEWN m, false, [⟨[78, 111] ++ NEWN m, []⟩]⟩
def MoreT (a : Md) (more : List Tr) : Prop := more = [] ∨ (more = [newT a.ts.length] ∧ a.ts.length < 4)
theorem newn_inj {k m : Nat} (h : NEWN k = NEWN m) : k = m := by
  simp only [NEWN, List.cons.injEq, and_true] at h
  omega
theorem newT_g {m : Nat} (h0 : 0 < m) (h4 : m < 4) : (newT m).G := by
  rcases (by omega : m = 1 ∨ m = 2 ∨ m = 3) with rfl | rfl | rfl <;> exact ⟨by decide, by decide, by decide, fun c hc => by rw [List.mem_singleton.mp hc]; exact ⟨by decide, by decide, by decide, fun f h => (by cases h)⟩⟩
theorem nx_of {a : Md} (g : a.G) {ts more bs : List Tr} (al : AlT a.ts ts) (mo : MoreT a more) (p : bs.Perm (ts ++ more)) {rs rb : List Fr} (kr : Kept a.rs rs) (hr : rs.length ≤ 5) (ho : ∀ f ∈ rs, f.ty ≠ .own) (pr : rb.Perm rs) : Md.G ⟨bs, rb⟩ ∧ Nx a ⟨bs, rb⟩ := by
  have hl : ts.length = a.ts.length := by have := congrArg List.length al.nm; simpa using this
  have gl := g.len
  have gp := g.pos
  have tg : ∀ T ∈ ts, T.G := fun T hT => by obtain ⟨c, _, h⟩ := al.bw T hT; exact h.g
  have mg : ∀ T ∈ more, T.G ∧ NewT a T := fun T hT => by
    rcases mo with rfl | ⟨rfl, h4⟩
    · cases hT
    · rw [List.mem_singleton.mp hT]
      refine ⟨newT_g gp h4, fun hm => ?_, _, rfl⟩
      have := g.nw a.ts.length gp h4 hm
      omega
  refine ⟨⟨?_, ?_, ?_, fun T hT => ?_, fun k k0 k4 hk => ?_, ?_, ?_, fun f hf => ?_⟩, ⟨fun T hT => ?_, fun T' hT => ?_, kr.perm pr⟩⟩
  · show bs.length ≤ 4
    rw [p.length_eq, List.length_append]
    rcases mo with rfl | ⟨rfl, h4⟩ <;> simp <;> omega
  · show 0 < bs.length
    rw [p.length_eq, List.length_append]
    omega
  · show (bs.map Tr.nm).Nodup
    rw [(p.map _).nodup_iff, List.map_append, al.nm]
    rcases mo with rfl | ⟨rfl, h4⟩
    · simpa using g.nd
    · rw [List.nodup_append]
      refine ⟨g.nd, by simp, fun x hx y hy => ?_⟩
      simp only [List.map_cons, List.map_nil, List.mem_singleton] at hy
      subst hy
      exact fun z => (mg (newT a.ts.length) (by simp)).2.nn (z ▸ hx)
  · have hT' : T ∈ bs := hT
    rcases List.mem_append.mp (p.mem_iff.mp hT') with h | h
    · exact tg T h
    · exact (mg T h).1
  · show k < bs.length
    have hk' : NEWN k ∈ bs.map Tr.nm := hk
    rw [(p.map _).mem_iff, List.map_append, al.nm] at hk'
    rw [p.length_eq, List.length_append]
    rcases List.mem_append.mp hk' with h | h
    · have := g.nw k k0 k4 h
      omega
    · rcases mo with rfl | ⟨rfl, h4⟩
      · cases h
      · simp only [List.map_cons, List.map_nil, List.mem_singleton] at h
        have := newn_inj (show NEWN k = NEWN a.ts.length from h)
        simp
        omega
  · show rb.length ≤ 5
    rw [pr.length_eq]; exact hr
  · show (rb.map Fr.nm).Nodup
    exact (kr.perm pr).nd
  · have hf' : f ∈ rb := hf
    exact ⟨(kr.perm pr).g f hf', ho f (pr.mem_iff.mp hf')⟩
  · obtain ⟨T', h1, h2⟩ := al.fw T hT
    exact ⟨T', p.mem_iff.mpr (List.mem_append_left _ h1), h2⟩
  · have hT' : T' ∈ bs := hT
    rcases List.mem_append.mp (p.mem_iff.mp hT') with h | h
    · exact .inl (al.bw T' h)
    · exact .inr (mg T' h).2
def NxtW (a : Md) (S : Sto) (p : PV) (S' : Sto) : Prop := ∃ b : Md, p = b.pv ∧ b.G ∧ Nx a b ∧ Cup S' ∧ Later S S'
section
variable {fns : List Fn} {cs : List PV} {w n : Nat} {o : CI} {S : Sto}
/-- the roots and the end -/
theorem nxt_roots (F : DrwF fns o) (hc : Cup S) {a : Md} (g : a.G) {ks : List Kn} (hk : ∀ k ∈ ks, k.1 ∈ TN) (hkl : ks.length ≤ 100) {ts more : List Tr} (al : AlT a.ts ts) (mo : MoreT a more) (s4 s5 s6 s7 s8 s9 s10 s11 s12 s13 s14 s15 s16 : Slot) {S0 : Sto} (h0 : Later S0 S) :
    Ok (evSs (ctx fns cs w (n + 7)) ((lnxtFn o).body.drop 4) [.val (.ref 0), .val a.pv, .val (.lst (ks.map knP)), .own ((ts ++ more).map Tr.pv), s4, s5, s6, s7, s8, s9, s10, s11, s12, s13, s14, s15, s16] S) (lf (NxtW a S0)) := by
  have L2 : 2 ≤ L := by decide
  have L5 : 5 ≤ L := by decide
  have gr := g.lr
  have tl : (ts ++ more).length ≤ 1000 := by
    have h1 : ts.length = a.ts.length := by have := congrArg List.length al.nm; simpa using this
    have h2 := g.len
    rw [List.length_append]
    rcases mo with rfl | ⟨rfl, h4⟩ <;> simp <;> omega
  have fin : ∀ (rs : List Fr) (S3 : Sto) (s10 : Slot), Kept a.rs rs → rs.length ≤ 5 → (∀ f ∈ rs, f.ty ≠ .own) → Cup S3 → Later S0 S3 → Ok (evSs (ctx fns cs w (n + 7)) ((lnxtFn o).body.drop 6) [.val (.ref 0), .val a.pv, .val (.lst (ks.map knP)), .own ((ts ++ more).map Tr.pv), s4, s5, s6, s7, s8, s9, s10, s11, s12, .own (rs.map Fr.pv), s14, s15, s16] S3) (lf (NxtW a S0)) := by
    intro rs S3 s10 kr hr ho hc3 hl3
    have mx := lmix_ok (cs := cs) (w := w) (n := n + 5) F hc3 Tr.pv (ts ++ more) tl
    simp [-Bool.exists_bool, lnxtFn, -List.map_append]
    refine mx.mono fun p S4 q => ?_
    obtain ⟨bs, rfl, hp, hc4, hl4⟩ := q
    refine (lmix_ok (cs := cs) (w := w) (n := n + 5) F hc4 Fr.pv rs (by omega)).mono fun p S5 q => ?_
    obtain ⟨rb, rfl, hpr, hc5, hl5⟩ := q
    obtain ⟨g1, g2⟩ := nx_of g al mo hp kr hr ho hpr
    simp [-Bool.exists_bool, L2]
    exact ⟨⟨bs, rb⟩, rfl, g1, g2, hc5, (hl3.trans hl4).trans hl5⟩
  rw [show (lnxtFn o).body.drop 4 = ((lnxtFn o).body.drop 4).take 2 ++ (lnxtFn o).body.drop 6 from rfl]
  generalize (lnxtFn o).body.drop 6 = B at fin ⊢
  generalize (ts ++ more).map Tr.pv = TS at fin ⊢
  simp [-Bool.exists_bool, -ok_scons, lnxtFn]
  rw [ok_scons]
  simp [-Bool.exists_bool, -ok_scons]
  refine (lkep_ok (cs := cs) (w := w) (n := n + 2) F hc a.rs (fun f hf => (g.rs f hf).1) g.rn gr 5).mono fun xs S1 q => ?_
  obtain ⟨news, rfl, hk1, hnl, hns, hc1, hl1⟩ := q
  have hnL : news.length ≤ L := by unfold L; omega
  have harL : a.rs.length ≤ L := by unfold L; omega
  have hnown : ∀ f ∈ news, f.ty ≠ .own := fun f hf => by
    cases hs : f.sr with
    | none => exact absurd hs (hns f hf)
    | some i =>
      obtain ⟨q, hq, ht, _⟩ := hk1.k f hf i hs
      rw [ht]
      exact (g.rs q (List.mem_of_getElem? hq)).2
  have htk : ∀ x ∈ a.rs.map Fr.nm ++ news.map Fr.nm, okS x = true := fun x hx => by
    rcases List.mem_append.mp hx with h | h
    · obtain ⟨f, hf, rfl⟩ := List.mem_map.mp h
      exact ok_names _ (g.rs f hf).1.nm
    · obtain ⟨f, hf, rfl⟩ := List.mem_map.mp h
      exact ok_names _ (hk1.g f hf).nm
  have htl : (a.rs.map Fr.nm ++ news.map Fr.nm).length ≤ 12 := by simp; omega
  have hcat : ((a.rs.map Fr.nm).map PV.str).length + ((news.map Fr.nm).map PV.str).length ≤ L := by simp; unfold L; omega
  have row := fun S3 (h3 : Cup S3) => fun Q q => rootrow_ok (cs := cs) (w := w) (n := n + 4) F h3 htk htl hk hkl (Q := Q) q
  rw [List.map_append] at row
  have nf := names_fr news
  have na := names_fr a.rs
  generalize (a.rs.map Fr.nm).map PV.str = A1 at row hcat na
  generalize (news.map Fr.nm).map PV.str = A2 at row nf hcat
  try simp [-Bool.exists_bool, -ok_scons]
  rw [ok_scons]
  by_cases h5 : news.length < 5
  · have h5' : (news.length : Int) < 5 := by omega
    simp [-Bool.exists_bool, -ok_scons, h5, h5']
    refine (roll_ok (n := n + 6) F.roll hc1 (many := 3) (by omega) (by omega)).mono fun p S3 q => ?_
    obtain ⟨v, rfl, hv, hc3, hl3⟩ := q
    by_cases hz : v = 0
    · subst hz
      simp [-Bool.exists_bool, -ok_scons]
      rw [ok_scons]
      simp [-Bool.exists_bool, -ok_scons, wipeE]
      refine ok_lcp Fr.pv (fun f => .str f.nm) harL (fun f hf => ⟨_, rfl, by simp [evTs], by simp [-Bool.exists_bool]⟩) ?_
      rw [na]
      try simp [-Bool.exists_bool, -ok_scons]
      refine ok_lcp Fr.pv (fun f => .str f.nm) hnL (fun f hf => ⟨_, rfl, by simp [evTs], by simp [-Bool.exists_bool]⟩) ?_
      rw [nf]
      simp [-Bool.exists_bool, -ok_scons, hcat]
      rw [ok_scons]
      simp [-Bool.exists_bool, -ok_scons]
      refine (row S3 hc3 (fun p S' => ∃ f : Fr, p = f.pv ∧ f.G ∧ f.New ∧ f.ty ≠ .own ∧ f.nm ∉ a.rs.map Fr.nm ∧ f.nm ∉ news.map Fr.nm ∧ Cup S' ∧ Later S3 S') fun f S4 S5 g1 g2 g3 g4 g5 g6 g7 => ⟨f, ?_, g1, g2, g3, ?_, ?_, g6, g7⟩).mono fun p S4 q => q.mono fun t S5 q => ?_
      · unfold Fr.pv
        rw [g2.td, g2.sr, g4]
        rfl
      · exact fun h => g5 (List.mem_append_left _ h)
      · exact fun h => g5 (List.mem_append_right _ h)
      · obtain ⟨f, ef, g1, g2, g3, g4, g5, hc5, hl5⟩ := q
        have hnl2 : news.length < L := by unfold L; omega
        have := fin (news ++ [f]) S5 (.val (.lst (A1 ++ A2))) (hk1.snocN g1 g5 g2 g4) (by simp; omega) (fun x hx => by
          rcases List.mem_append.mp hx with h | h
          · exact hnown x h
          · rw [List.mem_singleton.mp h]; exact g3) hc5 (((h0.trans hl1).trans hl3).trans hl5)
        have e : (news ++ [f]).map Fr.pv = news.map Fr.pv ++ [.lst [p, .non, t, .non, .non]] := by rw [List.map_append, ef]; rfl
        rw [e] at this
        simp [-Bool.exists_bool, -ok_scons, L5, hnl2]
        exact this
    · have hz' : ((v : Int) == 0) = false := by simpa using hz
      simp [-Bool.exists_bool, -ok_scons, hz, hz']
      exact fin news S3 _ hk1 (by omega) hnown hc3 ((h0.trans hl1).trans hl3)
  · have h5' : ¬ (news.length : Int) < 5 := by omega
    simp [-Bool.exists_bool, -ok_scons, h5, h5']
    exact fin news S1 _ hk1 (by omega) hnown hc1 (h0.trans hl1)
end
end Mn
end

section
set_option linter.all false
set_option autoImplicit false
set_option maxRecDepth 100000
set_option maxHeartbeats 1000000
/-! MnDrw9: the next program, drawn; a chain. -/
namespace Mn
theorem str_1 : strPV [.int 1] = some (.str [49]) := by
  have : strI 1 = [49] := by decide +kernel
  show (if (1 : Int).natAbs < 2 ^ 200 then some (PV.str (strI 1)) else none) = _
  rw [if_pos (by decide), this]
theorem str_2 : strPV [.int 2] = some (.str [50]) := by
  have : strI 2 = [50] := by decide +kernel
  show (if (2 : Int).natAbs < 2 ^ 200 then some (PV.str (strI 2)) else none) = _
  rw [if_pos (by decide), this]
theorem str_3 : strPV [.int 3] = some (.str [51]) := by
  have : strI 3 = [51] := by decide +kernel
  show (if (3 : Int).natAbs < 2 ^ 200 then some (PV.str (strI 3)) else none) = _
  rw [if_pos (by decide), this]
theorem str_m {m : Nat} (h0 : 0 < m) (h4 : m < 4) : bltPV .str [.int (m : Int)] = some (.str [48 + m]) := by
  rcases (by omega : m = 1 ∨ m = 2 ∨ m = 3) with rfl | rfl | rfl
  · exact str_1
  · exact str_2
  · exact str_3
/-- each is the next of the one ahead -/
def Chain : List Md → Prop
  | [] => True
  | [a] => a.G
  | a :: b :: r => a.G ∧ Nx a b ∧ Chain (b :: r)
theorem Chain.g : ∀ {c : List Md}, Chain c → ∀ m ∈ c, m.G
  | [a], h, m, hm => by rw [List.mem_singleton.mp hm]; exact h
  | a :: b :: r, h, m, hm => by
    rcases List.mem_cons.mp hm with rfl | hm
    · exact h.1
    · exact Chain.g h.2.2 m hm
theorem Chain.snoc : ∀ {c : List Md} {a b : Md}, Chain (c ++ [a]) → Nx a b → b.G → Chain (c ++ [a] ++ [b])
  | [], a, b, h, n, g => ⟨h, n, g⟩
  | [x], a, b, h, n, g => ⟨h.1, h.2.1, h.2.2, n, g⟩
  | x :: y :: r, a, b, h, n, g => ⟨h.1, h.2.1, Chain.snoc (c := y :: r) h.2.2 n g⟩
/-- each and its next -/
theorem Chain.nx : ∀ {c : List Md} {i : Nat} {a b : Md}, Chain c → c[i]? = some a → c[i + 1]? = some b → Nx a b
  | [x], i, a, b, h, _, hb => by simp at hb
  | x :: y :: r, 0, a, b, h, ha, hb => by
    simp only [List.getElem?_cons_zero, List.getElem?_cons_succ, Option.some.injEq] at ha hb
    subst ha hb
    exact h.2.1
  | x :: y :: r, i + 1, a, b, h, ha, hb => Chain.nx (c := y :: r) (i := i) h.2.2 (by simpa using ha) (by simpa using hb)
def ChnW (many : Nat) (S : Sto) (xs : List PV) (S' : Sto) : Prop := ∃ (a : Md) (r : List Md), xs = (a :: r).map Md.pv ∧ Chain (a :: r) ∧ a.New ∧ (a :: r).length = many ∧ Cup S' ∧ Later S S'
section
variable {fns : List Fn} {cs : List PV} {w n : Nat} {o : CI} {S : Sto}
theorem lnxt_ok (F : DrwF fns o) (hc : Cup S) {a : Md} (g : a.G) : Ok (callN fns cs w (n + 8) o.lnxt [.ref 0, a.pv] S) (NxtW a S) := by
  refine ok_call F.lnxt rfl ?_
  have L1 : 1 ≤ L := by decide
  have L2 : 2 ≤ L := by decide
  have L3 : 3 ≤ L := by decide
  have gl := g.len
  have gp := g.pos
  have htL : a.ts.length ≤ L := by unfold L; omega
  generalize hks : (a.ts.map fun T => (T.nm, T.has) : List Kn) = ks
  have hk : ∀ k ∈ ks, k.1 ∈ TN := fun k h => by
    rw [← hks] at h
    obtain ⟨T, hT, rfl⟩ := List.mem_map.mp h
    exact (g.ts T hT).nm
  have hkl : ks.length ≤ 100 := by rw [← hks]; simp; omega
  have ekn : (a.ts.map fun T : Tr => PV.lst [.str T.nm, .bl T.has]) = ks.map knP := by rw [← hks]; simp [knP, List.map_map, Function.comp_def]
  have typ := fun (S3 : Sto) (hc3 : Cup S3) (hl3 : Later S S3) (T : Tr) (hT : T ∈ a.ts) (TS : List PV) (hTS : TS.length < L) (s7 s8 s9 s10 s11 s12 : Slot) (W' : Fl → Sto → Prop) => @nxt_type fns cs w (n + 1) o S3 F hc3 T (g.ts T hT) ks hk hkl a.pv TS hTS s7 s8 s9 s10 s11 s12 .no .no .no .no S hl3 W'
  have rts := fun (S3 : Sto) (hc3 : Cup S3) (hl3 : Later S S3) (ts more : List Tr) (al : AlT a.ts ts) (mo : MoreT a more) (s4 s5 s6 s7 s8 s9 s10 s11 s12 : Slot) => @nxt_roots fns cs w n o S3 F hc3 a g ks hk hkl ts more al mo s4 s5 s6 s7 s8 s9 s10 s11 s12 .no .no .no .no S hl3
  rw [show (lnxtFn o).body = [(.set (.nm 2) (.fr (.lc [14] (.nm 14) (.sq (.e (.ix (.e (.v 1)) (.int 0)))) [] (.fr (.slc (.e (.v 14)) .no (.e (.int 2))))))), (.setO 3 (.lst [])), (.for (.tp [(.nm 4), (.nm 5), (.nm 6)]) (.sq (.e (.ix (.e (.v 1)) (.int 0)))) (nxtT o)), (lnxtFn o).body.getD 3 .pass] ++ (lnxtFn o).body.drop 4 from rfl]
  generalize hB3 : (lnxtFn o).body.getD 3 .pass = B3
  generalize (lnxtFn o).body.drop 4 = B at rts ⊢
  generalize nxtT o = BT at typ ⊢
  simp only [List.cons_append, List.nil_append]
  rw [show enter (lnxtFn o) [PV.ref 0, a.pv] = [.val (.ref 0), .val a.pv, .no, .no, .no, .no, .no, .no, .no, .no, .no, .no, .no, .no, .no, .no, .no] from rfl]
  rw [ok_scons]
  simp [-Bool.exists_bool, -ok_scons, wipeE]
  refine ok_lcp Tr.pv (fun T => .lst [.str T.nm, .bl T.has]) htL (fun T hT => ⟨_, rfl, by simp [evTs], by
    simp [-Bool.exists_bool, Tr.pv, cutS, slB]⟩) ?_
  rw [ekn]
  try simp [-Bool.exists_bool, -ok_scons]
  rw [ok_scons]
  simp [-Bool.exists_bool, -ok_scons]
  rw [ok_scons]
  simp [-Bool.exists_bool, -ok_scons]
  refine ok_formW Tr.pv (fun r ρ S' => Cup S' ∧ Later S S' ∧ ∃ (done ts : List Tr) (s4 s5 s6 s7 s8 s9 s10 s11 s12 : Slot), ρ = [.val (.ref 0), .val a.pv, .val (.lst (ks.map knP)), .own (ts.map Tr.pv), s4, s5, s6, s7, s8, s9, s10, s11, s12, .no, .no, .no, .no] ∧ done ++ r = a.ts ∧ AlT done ts) (fun T r ρ S2 q => ?_) (fun ρ S2 q => ?_) ⟨hc, .refl S, [], [], _, _, _, _, _, _, _, _, _, rfl, rfl, ⟨rfl, fun c h => (by cases h), fun c h => (by cases h)⟩⟩
  · obtain ⟨hc2, hl2, done, ts, s4, s5, s6, s7, s8, s9, s10, s11, s12, rfl, he, ha⟩ := q
    have hTm : T ∈ a.ts := by rw [← he]; simp
    have htl : ts.length = done.length := by have := congrArg List.length ha.nm; simpa using this
    have hdl : done.length ≤ a.ts.length := by rw [← he]; simp
    refine ⟨_, rfl, fun W' w1' _ _ => ?_⟩
    refine typ S2 hc2 hl2 T hTm (ts.map Tr.pv) (by simp; unfold L; omega) s7 s8 s9 s10 s11 s12 W' fun T' S3 t7 t8 t9 t10 t11 t12 k hc3 hl3 => ?_
    exact w1' _ _ ⟨hc3, hl3, done ++ [T], ts ++ [T'], _, _, _, _, _, _, _, _, _, by rw [List.map_append]; rfl, by simpa using he, ha.snoc k⟩
  · obtain ⟨hc2, hl2, done, ts, s4, s5, s6, s7, s8, s9, s10, s11, s12, rfl, he, ha⟩ := q
    rw [List.append_nil] at he
    subst he
    have htl : ts.length = a.ts.length := by have := congrArg List.length ha.nm; simpa using this
    simp only [sq_nx]
    rw [ok_scons]
    subst hB3
    have r0 := rts S2 hc2 hl2 ts [] ha (.inl rfl) s4 s5 s6 s7 s8 s9 s10 s11 s12
    rw [List.append_nil] at r0
    simp only [lnxtFn, List.getD_cons_succ, List.getD_cons_zero]
    by_cases h4 : a.ts.length < 4
    · have h4' : (a.ts.length : Int) < 4 := by omega
      simp [-Bool.exists_bool, -ok_scons, htl, h4, h4']
      refine (roll_ok (n := n + 6) F.roll hc2 (many := 4) (by omega) (by omega)).mono fun p S3 q => ?_
      obtain ⟨v, rfl, hv, hc3, hl3⟩ := q
      by_cases hz : v = 0
      · subst hz
        have htsL : a.ts.length < L := by unfold L; omega
        have L4 : 4 ≤ L := by decide
        have L6 : 6 ≤ L := by decide
        have b1 : binPV .add (.str [78, 101, 119]) (.str [48 + a.ts.length]) = some (.str (NEWN a.ts.length)) := by
          show (if [78, 101, 119].length + [48 + a.ts.length].length ≤ L then some (PV.str ([78, 101, 119] ++ [48 + a.ts.length])) else none) = _
          exact if_pos (c := [78, 101, 119].length + [48 + a.ts.length].length ≤ L) L4
        have b2 : binPV .add (.str [78, 111, 78, 101, 119]) (.str [48 + a.ts.length]) = some (.str ([78, 111] ++ NEWN a.ts.length)) := by
          show (if [78, 111, 78, 101, 119].length + [48 + a.ts.length].length ≤ L then some (PV.str ([78, 111, 78, 101, 119] ++ [48 + a.ts.length])) else none) = _
          exact if_pos (c := [78, 111, 78, 101, 119].length + [48 + a.ts.length].length ≤ L) L6
        have := rts S3 hc3 (hl2.trans hl3) ts [newT a.ts.length] ha (.inr ⟨rfl, h4⟩) s4 s5 s6 s7 s8 s9 s10 s11 s12
        rw [List.map_append] at this
        simp [-Bool.exists_bool, -ok_scons]
        rw [ok_scons]
        simp [-Bool.exists_bool, -ok_scons, htl, str_m gp h4, b1, b2, L1, L2, L3, htsL]
        exact this
      · have hz' : ((v : Int) == 0) = false := by simpa using hz
        have r1 := rts S3 hc3 (hl2.trans hl3) ts [] ha (.inl rfl) s4 s5 s6 s7 s8 s9 s10 s11 s12
        rw [List.append_nil] at r1
        simp [-Bool.exists_bool, -ok_scons, hz, hz']
        exact r1
    · have h4' : ¬ (a.ts.length : Int) < 4 := by omega
      simp [-Bool.exists_bool, -ok_scons, htl, h4, h4']
      exact r0
theorem lchn_ok (F : DrwF fns o) (hc : Cup S) (many : Nat) (h1 : 1 ≤ many) (hm : many ≤ 10) : Ok (callN fns cs w (n + 9) o.lchn [.ref 0, .int (many : Int)] S) fun p S' => ∃ xs, p = .lst xs ∧ ChnW many S xs S' := by
  refine ok_call F.lchn rfl ?_
  have L1 : 1 ≤ L := by decide
  simp [-Bool.exists_bool, lchnFn, enter]
  refine (lfst_ok (cs := cs) (w := w) (n := n) F hc).mono fun p S1 q => ?_
  obtain ⟨a, rfl, ga, na, hc1, hl1⟩ := q
  have e1 : ((many : Int) - 1).toNat = many - 1 := by omega
  have e2 : ((many : Int) - 1).natAbs < 2 ^ 62 := by omega
  simp [-Bool.exists_bool, L1, e2]
  rw [rngI_0]
  refine ok_formW (fun i : Nat => .int (i : Int)) (fun r ρ S' => Cup S' ∧ Later S S' ∧ ∃ (c : List Md) (s3 : Slot), ρ = [.val (.ref 0), .val (.int (many : Int)), .own ((a :: c).map Md.pv), s3] ∧ Chain (a :: c) ∧ (a :: c).length + r.length = many) (fun i r ρ S2 q => ?_) (fun ρ S2 q => ?_) ⟨hc1, hl1, [], _, rfl, ga, by simp; omega⟩
  · obtain ⟨hc2, hl2, c, s3, rfl, hch, hlen⟩ := q
    refine ⟨_, rfl, fun W w1 _ _ => ?_⟩
    obtain ⟨c0, z, ez⟩ : ∃ c0 z, a :: c = c0 ++ [z] := ⟨(a :: c).dropLast, (a :: c).getLast (by simp), (List.dropLast_concat_getLast (by simp)).symm⟩
    have gz : z.G := hch.g z (by rw [ez]; simp)
    have at1 : atPV ((a :: c).map Md.pv) (-1) = some z.pv := by
      rw [ez, List.map_append]
      unfold atPV ixOf
      simp
      have : ¬ (0 : Int) ≤ -1 := by omega
      have e3 : (-1 + (((c0.length : Int)) + 1)).toNat = c0.length := by omega
      rw [if_pos (by omega)]
      simp only [Option.bind_some]
      rw [e3]
      simp
    have cl : (a :: c).length < L := by unfold L; simp only [List.length_cons] at hlen ⊢; omega
    have cl2 : c.length + 1 < L := by simpa using cl
    have e4 : (a :: c).map Md.pv = a.pv :: c.map Md.pv := rfl
    rw [e4] at at1
    simp [-Bool.exists_bool, at1]
    refine (lnxt_ok (cs := cs) (w := w) (n := n) F hc2 gz).mono fun p S3 q => ?_
    obtain ⟨b, rfl, gb, nb, hc3, hl3⟩ := q
    simp [-Bool.exists_bool, cl2]
    refine w1 _ _ ⟨hc3, hl2.trans hl3, c ++ [b], _, by rw [List.map_cons, List.map_append]; rfl, ?_, by simp only [List.length_cons, List.length_append, List.length_nil] at hlen ⊢; omega⟩
    have := Chain.snoc (c := c0) (a := z) (b := b) (ez ▸ hch) nb gb
    rw [← ez] at this
    exact this
  · obtain ⟨hc2, hl2, c, s3, rfl, hch, hlen⟩ := q
    simp [-Bool.exists_bool]
    exact ⟨a, c, rfl, hch, na, by simpa using hlen, hc2, hl2⟩
end
end Mn
end

section
set_option linter.all false
set_option autoImplicit false
set_option maxRecDepth 100000
set_option maxHeartbeats 1000000
/-! MnDrwA: the program of what is drawn; its cases by name. -/
namespace Mn
def Fr.toF (f : Fr) : Fd := ⟨f.nm, f.td, f.ty.pv, f.ct⟩
def expP : TyK → PV
  | .int => .tup [.str [105, 110, 116], .int 4]
  | .text => .tup [.str [116, 101, 120, 116], .str [120]]
  | .of n _ => .tup [.str [109, 97, 107, 101], .str ([78, 111] ++ n), .tup []]
  | .own => .non
def Fr.toR (f : Fr) : Fd := ⟨f.nm, f.td, f.ty.pv, expP f.ty⟩
def Cr.toC (c : Cr) : Cs := ⟨c.nm, c.fs.map Fr.toF⟩
def Tr.toK (t : Tr) : Kd := ⟨t.nm, t.has, t.cs.map Cr.toC⟩
def Md.toP (m : Md) : Pg := ⟨m.ts.map Tr.toK, m.rs.map Fr.toR⟩
theorem Fr.G.ok {f : Fr} (g : f.G) : f.toF.Ok := ⟨ok_names _ g.nm, fun t h => ok_names _ (g.td t h), TyK.flat g.ty 58⟩
theorem Fr.G.okR {f : Fr} (g : f.G) : f.toR.Ok := ⟨ok_names _ g.nm, fun t h => ok_names _ (g.td t h), TyK.flat g.ty 58⟩
theorem Fr.G.ctf {f : Fr} (g : f.G) (n : Nat) : flat n f.ct = true := by
  rcases g.ct with h | h
  · rw [h]; cases n <;> rfl
  · exact h.flat n
theorem Md.G.ok {m : Md} (g : m.G) : m.toP.Ok where
  len := by have := g.len; simp [Md.toP]; omega
  ks := fun k hk => by
    obtain ⟨T, hT, rfl⟩ := List.mem_map.mp hk
    have tg := g.ts T hT
    refine ⟨by have := tg.len; simp [Tr.toK]; omega, fun c hc => ?_⟩
    obtain ⟨c0, hc0, rfl⟩ := List.mem_map.mp hc
    have cg := tg.cs c0 hc0
    refine ⟨by have := cg.len; simp [Cr.toC]; omega, fun f hf => ?_⟩
    obtain ⟨f0, hf0, rfl⟩ := List.mem_map.mp hf
    exact ⟨(cg.fs f0 hf0).ok, (cg.fs f0 hf0).ctf 60⟩
  lr := by have := g.lr; simp [Md.toP]; omega
  rs := fun f hf => by
    obtain ⟨f0, hf0, rfl⟩ := List.mem_map.mp hf
    exact (g.rs f0 hf0).1.okR
/-- what a find by name gives, where names stand once -/
theorem find_nm {α : Type} (nm : α → Sg) : ∀ {xs : List α} {x : α}, (xs.map nm).Nodup → x ∈ xs → xs.find? (fun a => nm a == nm x) = some x
  | a :: r, x, hn, hx => by
    rw [List.map_cons, List.nodup_cons] at hn
    rw [List.find?_cons]
    rcases List.mem_cons.mp hx with rfl | h
    · simp
    · have : nm a ≠ nm x := fun z => hn.1 (z ▸ List.mem_map.mpr ⟨x, h, rfl⟩)
      have hb : (nm a == nm x) = false := by simpa using this
      rw [hb]
      exact find_nm nm hn.2 h
theorem find_none {α : Type} (nm : α → Sg) {xs : List α} {x : Sg} (h : x ∉ xs.map nm) : xs.find? (fun a => nm a == x) = none := by
  rw [List.find?_eq_none]
  intro a ha hb
  exact h (List.mem_map.mpr ⟨a, ha, by simpa using hb⟩)
theorem toK_nm (ts : List Tr) : (ts.map Tr.toK).map Kd.nm = ts.map Tr.nm := by simp [List.map_map, Function.comp_def, Tr.toK]
theorem toC_nm (cs : List Cr) : (cs.map Cr.toC).map Cs.nm = cs.map Cr.nm := by simp [List.map_map, Function.comp_def, Cr.toC]
theorem toF_nm (fs : List Fr) : (fs.map Fr.toF).map Fd.nm = fs.map Fr.nm := by simp [List.map_map, Function.comp_def, Fr.toF]
theorem toR_nm (fs : List Fr) : (fs.map Fr.toR).map Fd.nm = fs.map Fr.nm := by simp [List.map_map, Function.comp_def, Fr.toR]
theorem fin_mem {m : Md} (g : m.G) {T : Tr} (hT : T ∈ m.ts) {c : Cr} (hc : c ∈ T.cs) : fieldsIn m.toP T.nm c.nm = some (c.fs.map Fr.toF) := by
  unfold fieldsIn
  have h1 := find_nm Kd.nm (xs := m.toP.ks) (x := T.toK) (by show ((m.ts.map Tr.toK).map Kd.nm).Nodup; rw [toK_nm]; exact g.nd) (List.mem_map.mpr ⟨T, hT, rfl⟩)
  have h2 := find_nm Cs.nm (xs := T.toK.cs) (x := c.toC) (by show ((T.cs.map Cr.toC).map Cs.nm).Nodup; rw [toC_nm]; exact (g.ts T hT).nd) (List.mem_map.mpr ⟨c, hc, rfl⟩)
  have h1' : m.toP.ks.find? (fun x => x.nm == T.nm) = some T.toK := h1
  have h2' : T.toK.cs.find? (fun x => x.nm == c.nm) = some c.toC := h2
  rw [h1', Option.bind_some, h2']
  rfl
theorem fin_noT {m : Md} {t x : Sg} (h : t ∉ m.ts.map Tr.nm) : fieldsIn m.toP t x = none := by
  unfold fieldsIn
  have := find_none Kd.nm (xs := m.toP.ks) (x := t) (by show t ∉ (m.ts.map Tr.toK).map Kd.nm; rw [toK_nm]; exact h)
  rw [this]
  rfl
theorem fin_noC {m : Md} (g : m.G) {T : Tr} (hT : T ∈ m.ts) {x : Sg} (h : x ∉ T.cs.map Cr.nm) : fieldsIn m.toP T.nm x = none := by
  unfold fieldsIn
  have h1 := find_nm Kd.nm (xs := m.toP.ks) (x := T.toK) (by show ((m.ts.map Tr.toK).map Kd.nm).Nodup; rw [toK_nm]; exact g.nd) (List.mem_map.mpr ⟨T, hT, rfl⟩)
  have h2 := find_none Cs.nm (xs := T.toK.cs) (x := x) (by show x ∉ (T.cs.map Cr.toC).map Cs.nm; rw [toC_nm]; exact h)
  have h1' : m.toP.ks.find? (fun x => x.nm == T.nm) = some T.toK := h1
  rw [h1', Option.bind_some, h2]
  rfl
/-- where a kept row comes from -/
theorem src_kept {olds news : List Fr} (hn : (olds.map Fr.nm).Nodup) (k : Kept olds news) {f : Fr} (hf : f ∈ news) {g : Fd} (e1 : g.nm = f.nm) (e2 : g.td = f.td) : src (olds.map Fr.nm) g = f.sr := by
  unfold src Fd.key
  rw [e1, e2]
  cases hs : f.sr with
  | none =>
    obtain ⟨h1, h2⟩ := k.n f hf hs
    rw [h1]
    exact fI_none h2
  | some i =>
    obtain ⟨q, hq, _, h⟩ := k.k f hf i hs
    have hk : f.td.getD f.nm = q.nm := by
      rcases h with ⟨h1, h2⟩ | ⟨h1, _⟩
      · rw [h1]; exact h2
      · rw [h1]; rfl
    rw [hk, fI_nodup hn (by rw [List.getElem?_map, hq]; rfl)]
    simp
/-- all cases of a program -/
def caseL (m : Md) : List Cr := (m.ts.map Tr.cs).flatten
theorem caseL_mem {m : Md} {c : Cr} : c ∈ caseL m ↔ ∃ T ∈ m.ts, c ∈ T.cs := by
  unfold caseL
  rw [List.mem_flatten]
  constructor
  · rintro ⟨l, hl, hc⟩
    obtain ⟨T, hT, rfl⟩ := List.mem_map.mp hl
    exact ⟨T, hT, hc⟩
  · rintro ⟨T, hT, hc⟩
    exact ⟨T.cs, List.mem_map.mpr ⟨T, hT, rfl⟩, hc⟩
theorem names_apart : ∀ {ts : List Tr}, (ts.map Tr.nm).Nodup → (∀ T ∈ ts, T.G) → (((ts.map Tr.cs).flatten).map Cr.nm).Nodup
  | [], _, _ => by simp
  | T :: r, hn, hg => by
    rw [List.map_cons, List.nodup_cons] at hn
    have ih := names_apart hn.2 fun t ht => hg t (List.mem_cons_of_mem _ ht)
    rw [List.map_cons, List.flatten_cons, List.map_append, List.nodup_append]
    have tg := hg T List.mem_cons_self
    refine ⟨tg.nd, ih, fun x hx y hy => ?_⟩
    obtain ⟨c, hc, rfl⟩ := List.mem_map.mp hx
    obtain ⟨d, hd, rfl⟩ := List.mem_map.mp hy
    obtain ⟨l, hl, hdl⟩ := List.mem_flatten.mp hd
    obtain ⟨U, hU, rfl⟩ := List.mem_map.mp hl
    have ug := hg U (List.mem_cons_of_mem _ hU)
    have hne : T.nm ≠ U.nm := fun z => hn.1 (z ▸ List.mem_map.mpr ⟨U, hU, rfl⟩)
    have h1 := (tg.cs c hc).nm
    have h2 := (ug.cs d hdl).nm
    exact fun z => cn_apart T.nm tg.nm U.nm ug.nm hne c.nm h1 (z ▸ h2)
theorem Md.G.names {m : Md} (g : m.G) : ((caseL m).map Cr.nm).Nodup := names_apart g.nd g.ts
theorem caseL_len {m : Md} (g : m.G) : (caseL m).length ≤ 12 := by
  unfold caseL
  have h1 := flatten_len (xs := m.ts.map Tr.cs) (m := 3) fun x hx => by
    obtain ⟨T, hT, rfl⟩ := List.mem_map.mp hx
    exact (g.ts T hT).len
  have := g.len
  simp only [List.length_map] at h1
  omega
def fsP (c : Cr) : PV := .lst (c.fs.map Fr.pv)
def casD (m : Md) : PV := .dct ((caseL m).map fun c => .s c.nm) ((caseL m).map fsP)
section
variable {fns : List Fn} {cs : List PV} {w n : Nat} {o : CI} {S : Sto}
theorem lexp_eq (F : DrwF fns o) (n : Nat) (S : Sto) {t : TyK} (h : t.ok TN) (ho : t ≠ .own) : callN fns cs w (n + 1) o.lexp [t.pv] S = .ok (expP t) S := by
  refine Ok.eq (ok_call F.lexp rfl ?_)
  have L1 : 1 ≤ L := by decide
  have L2 : 2 ≤ L := by decide
  have L3 : 3 ≤ L := by decide
  have L0 : 0 ≤ L := by decide
  cases t with
  | own => exact absurd rfl ho
  | int =>
    have e : cmpPV .eq (TyK.pv .int) tINT = some true := rfl
    simp [-Bool.exists_bool, lexpFn, enter, L1, L2, e, expP]
  | text =>
    have e : cmpPV .eq (TyK.pv .text) tINT = some false := rfl
    have e2 : cmpPV .eq (TyK.pv .text) tTEXT = some true := rfl
    simp [-Bool.exists_bool, lexpFn, enter, L1, L2, e, e2, expP]
  | of m b =>
    have e : cmpPV .eq (TyK.of m b).pv tINT = some false := by rw [eq_int' _ h]; rfl
    have e2 : cmpPV .eq (TyK.of m b).pv tTEXT = some false := by
      rw [eq_flat (TyK.flat h 58) rfl]
      cases b <;> rfl
    have i1 : ixPV (TyK.of m b).pv (.int 1) = some (.str m) := rfl
    have ml : 2 + m.length ≤ L := by
      have : ∀ x ∈ TN, 2 + x.length ≤ L := by decide
      exact this m h
    have bs : binPV .add (.str [78, 111]) (.str m) = some (.str ([78, 111] ++ m)) := by
      show (if [78, 111].length + m.length ≤ L then some (PV.str ([78, 111] ++ m)) else none) = _
      exact if_pos (by simpa using ml)
    simp [-Bool.exists_bool, lexpFn, enter, L0, L1, L2, L3, e, e2, expP, i1, bs]
theorem lprg_eq (F : DrwF fns o) (n : Nat) (S : Sto) {m : Md} (g : m.G) : callN fns cs w (n + 2) o.lprg [m.pv] S = .ok m.toP.pv S := by
  refine Ok.eq (ok_call F.lprg rfl ?_)
  have L2 : 2 ≤ L := by decide
  have L3 : 3 ≤ L := by decide
  have L4 : 4 ≤ L := by decide
  have L0 : 0 ≤ L := by decide
  have gl := g.len
  have gr := g.lr
  simp [-Bool.exists_bool, lprgFn, enter]
  refine ok_formW Tr.pv (fun r ρ S' => S' = S ∧ (∀ T ∈ r, T ∈ m.ts) ∧ ∃ (acc : List PV) (s2 s3 s4 s5 : Slot), ρ = [.val m.pv, .own acc, s2, s3, s4, s5, .no, .no, .no] ∧ acc ++ r.map (fun T => T.toK.pv) = m.ts.map fun T => T.toK.pv) (fun T r ρ S2 q => ?_) (fun ρ S2 q => ?_) ⟨rfl, fun T h => h, [], _, _, _, _, rfl, rfl⟩
  · obtain ⟨rfl, hm, acc, s2, s3, s4, s5, rfl, he⟩ := q
    refine ⟨_, rfl, fun W w1 _ _ => ?_⟩
    have tg := g.ts T (hm T List.mem_cons_self)
    have tl := tg.len
    have al : acc.length < L := by
      have := congrArg List.length he
      simp only [List.length_append, List.length_cons, List.length_map] at this
      unfold L
      omega
    have hcl : T.cs.length ≤ L := by unfold L; omega
    simp [-Bool.exists_bool, wipeE]
    refine ok_lcp Cr.pv (fun c => c.toC.pv) hcl (fun c hc => ⟨_, rfl, by simp [evTs], ?_⟩) ?_
    · have cl := (tg.cs c hc).len
      have hfl : c.fs.length ≤ L := by unfold L; omega
      simp [-Bool.exists_bool, wipeE]
      refine ok_lcp Fr.pv (fun f => f.toF.pv) hfl (fun f hf => ⟨_, rfl, by simp [evTs], ?_⟩) ?_
      · simp [-Bool.exists_bool, Fr.pv, cutS, slB]
        rfl
      · simp [-Bool.exists_bool, L2]
        unfold Cr.toC Cs.pv
        simp [List.map_map, Function.comp_def]
    · simp [-Bool.exists_bool, L3, al]
      refine w1 _ _ ⟨rfl, fun U hU => hm U (List.mem_cons_of_mem _ hU), _, _, _, _, _, rfl, ?_⟩
      rw [← he]
      simp [Tr.toK, Kd.pv, List.map_map, Function.comp_def]
  · obtain ⟨rfl, hm, acc, s2, s3, s4, s5, rfl, he⟩ := q
    simp only [List.map_nil, List.append_nil] at he
    subst he
    have hrl : m.rs.length ≤ L := by unfold L; omega
    simp [-Bool.exists_bool, wipeE]
    refine ok_lcp Fr.pv (fun f => f.toR.pv) hrl (fun f hf => ⟨_, rfl, by simp [evTs], ?_⟩) ?_
    · have e := fun n => lexp_eq (cs := cs) (w := w) F n S2 (g.rs f hf).1.ty (g.rs f hf).2
      simp [-Bool.exists_bool, e, L4]
      rfl
    · simp [-Bool.exists_bool, L3, L0]
      simp [Md.toP, Pg.pv, List.map_map, Function.comp_def]
theorem put_new {k : Ky} {v : PV} {ks : List Ky} {vs : List PV} (h : k ∉ ks) : putKy k v (ks, vs) = (ks ++ [k], vs ++ [v]) := if_neg h
theorem lcss_eq (hs : fns[o.lcss]? = some (lcssFn o)) (n : Nat) (S : Sto) {m : Md} (g : m.G) : callN fns cs w (n + 1) o.lcss [m.pv] S = .ok (casD m) S := by
  refine Ok.eq (ok_call hs rfl ?_)
  have cl := caseL_len g
  have nd := g.names
  simp [-Bool.exists_bool, lcssFn, enter]
  refine ok_formW Tr.pv (fun r ρ S' => S' = S ∧ ∃ (acc : List Cr) (s2 s3 s4 s5 : Slot), ρ = [.val m.pv, .dwn (acc.map fun c => .s c.nm) (acc.map fsP), s2, s3, s4, s5] ∧ acc ++ (r.map Tr.cs).flatten = caseL m) (fun T r ρ S2 q => ?_) (fun ρ S2 q => ?_) ⟨rfl, [], _, _, _, _, rfl, rfl⟩
  · obtain ⟨rfl, acc0, s2, s3, s4, s5, rfl, he0⟩ := q
    refine ⟨_, rfl, fun W w1 _ _ => ?_⟩
    rw [List.map_cons, List.flatten_cons] at he0
    simp [-Bool.exists_bool]
    refine ok_formW Cr.pv (fun q ρ S' => S' = S2 ∧ ∃ (acc : List Cr) (s5 : Slot), ρ = [.val m.pv, .dwn (acc.map fun c => .s c.nm) (acc.map fsP), .val (.str T.nm), .val (.bl T.has), .val (.lst (T.cs.map Cr.pv)), s5] ∧ acc ++ (q ++ (r.map Tr.cs).flatten) = caseL m) (fun c q ρ S3 z => ?_) (fun ρ S3 z => ?_) ⟨rfl, acc0, _, rfl, he0⟩
    · obtain ⟨rfl, acc, s5, rfl, he⟩ := z
      refine ⟨_, rfl, fun W' w1' _ _ => ?_⟩
      have al : acc.length < L := by
        have := congrArg List.length he
        simp only [List.length_append, List.length_cons] at this
        unfold L
        omega
      have hk : Ky.s c.nm ∉ acc.map fun c => Ky.s c.nm := fun h => by
        obtain ⟨d, hd, e⟩ := List.mem_map.mp h
        rw [← he, List.map_append, List.nodup_append] at nd
        simp only [Ky.s.injEq] at e
        exact nd.2.2 d.nm (List.mem_map.mpr ⟨d, hd, rfl⟩) c.nm (by simp) e
      simp [-Bool.exists_bool, kyOf, al]
      refine ⟨_, _, ⟨rfl, rfl⟩, by simpa using al, ?_⟩
      rw [put_new hk]
      exact w1' _ _ ⟨rfl, acc ++ [c], _, by rw [List.map_append, List.map_append]; rfl, by simpa using he⟩
    · obtain ⟨rfl, acc, s5, rfl, he⟩ := z
      simp only [sq_nx, ok_snil]
      exact w1 _ _ ⟨rfl, acc, _, _, _, _, rfl, by simpa using he⟩
  · obtain ⟨rfl, acc, s2, s3, s4, s5, rfl, he⟩ := q
    simp only [List.map_nil, List.flatten_nil, List.append_nil] at he
    subst he
    simp [-Bool.exists_bool]
    rfl
end
end Mn
end

section
set_option linter.all false
set_option autoImplicit false
set_option maxRecDepth 100000
set_option maxHeartbeats 1000000
/-! MnDrwB: ways between what is drawn. -/
namespace Mn
/-- the fields of the case of a name -/
def cb (m : Md) (x : Sg) : List Fr := (((caseL m).find? fun c => c.nm == x).map Cr.fs).getD []
theorem cb_mem {m : Md} (g : m.G) {c : Cr} (hc : c ∈ caseL m) : cb m c.nm = c.fs := by
  unfold cb
  rw [find_nm Cr.nm g.names hc]
  rfl
theorem findD_map {α : Type} (nm : α → Sg) (v : α → PV) : ∀ {xs : List α} {x : Sg}, findD (.s x) (xs.map fun a => .s (nm a)) (xs.map v) = (xs.find? fun a => nm a == x).map v
  | [], x => rfl
  | a :: r, x => by
    simp only [List.map_cons, findD, List.find?_cons]
    by_cases h : nm a = x
    · rw [if_pos (by rw [h])]
      have hb : (nm a == x) = true := by simpa using h
      rw [hb]
      rfl
    · rw [if_neg (fun z => h (by simpa using z))]
      have hb : (nm a == x) = false := by simpa using h
      rw [hb]
      exact findD_map nm v
theorem casD_get {m : Md} (g : m.G) {c : Cr} (hc : c ∈ caseL m) : ixPV (casD m) (.str c.nm) = some (.lst ((cb m c.nm).map Fr.pv)) := by
  show findD (.s c.nm) ((caseL m).map fun c => .s c.nm) ((caseL m).map fsP) = _
  rw [findD_map Cr.nm fsP, find_nm Cr.nm g.names hc, cb_mem g hc]
  rfl
theorem casD_in {m : Md} (x : Sg) : cmpPV .isin (.str x) (casD m) = some (((caseL m).map Cr.nm).contains x) := by
  show (some (Ky.s x)).map (fun k => (findD k ((caseL m).map fun c => .s c.nm) ((caseL m).map fsP)).isSome) = _
  simp only [Option.map_some, findD_map Cr.nm fsP, Option.isSome_map]
  congr 1
  rw [Bool.eq_iff_iff, List.find?_isSome]
  simp
/-! sorted -/
theorem insB_map {α β : Type} (f : α → β) (lt : α → α → Bool) (lt' : β → β → Bool) (h : ∀ x y, lt' (f x) (f y) = lt x y) (x : α) : ∀ xs : List α, insB lt' (f x) (xs.map f) = (insB lt x xs).map f
  | [] => rfl
  | y :: r => by
    simp only [List.map_cons, insB, h, insB_map f lt lt' h x r]
    split <;> rfl
theorem srtB_map {α β : Type} (f : α → β) (lt : α → α → Bool) (lt' : β → β → Bool) (h : ∀ x y, lt' (f x) (f y) = lt x y) : ∀ xs : List α, srtB lt' (xs.map f) = (srtB lt xs).map f
  | [] => rfl
  | x :: r => by
    simp only [List.map_cons, srtB, srtB_map f lt lt' h r, insB_map f lt lt' h]
theorem insB_mem {α : Type} (lt : α → α → Bool) (x : α) : ∀ (xs : List α) (y : α), y ∈ insB lt x xs ↔ y = x ∨ y ∈ xs
  | [], y => by simp [insB]
  | z :: r, y => by
    simp only [insB]
    split
    · simp
    · simp only [List.mem_cons, insB_mem lt x r y]
      exact ⟨fun h => by rcases h with h | h | h <;> simp [h], fun h => by rcases h with h | h | h <;> simp [h]⟩
theorem srtB_mem {α : Type} (lt : α → α → Bool) : ∀ (xs : List α) (y : α), y ∈ srtB lt xs ↔ y ∈ xs
  | [], y => by simp [srtB]
  | z :: r, y => by simp only [srtB, insB_mem, srtB_mem lt r y, List.mem_cons]
theorem insB_len {α : Type} (lt : α → α → Bool) (x : α) : ∀ xs : List α, (insB lt x xs).length = xs.length + 1
  | [] => rfl
  | z :: r => by
    simp only [insB]
    split <;> simp [insB_len lt x r]
theorem srtB_len {α : Type} (lt : α → α → Bool) : ∀ xs : List α, (srtB lt xs).length = xs.length
  | [] => rfl
  | z :: r => by simp [srtB, insB_len, srtB_len lt r]
theorem heads_map (W : Sg → List PV) : ∀ xs : List Sg, headsOf (xs.map fun x => .tup (.str x :: W x)) = some xs
  | [] => rfl
  | x :: r => by simp [headsOf, heads_map W r]
theorem nodupB_of : ∀ {xs : List Sg}, xs.Nodup → nodupB xs = true
  | [], _ => rfl
  | x :: r, h => by
    rw [List.nodup_cons] at h
    simp only [nodupB, Bool.and_eq_true, nodupB_of h.2]
    simpa using h.1
theorem srtL_map (W : Sg → List PV) {xs : List Sg} (h : xs.Nodup) : srtL (xs.map fun x => .tup (.str x :: W x)) = some ((srtB ltSg xs).map fun x => .tup (.str x :: W x)) := by
  cases xs with
  | nil => rfl
  | cons x r =>
    have e1 : intsOf ((x :: r).map fun x => PV.tup (.str x :: W x)) = none := rfl
    have e2 : strsOf ((x :: r).map fun x => PV.tup (.str x :: W x)) = none := rfl
    unfold srtL
    rw [e1, e2, heads_map W]
    dsimp only
    rw [if_pos (nodupB_of h)]
    congr 1
    exact srtB_map (fun x => PV.tup (.str x :: W x)) ltSg _ (fun _ _ => rfl) (x :: r)
theorem kyS_map (xs : List Cr) : kyS (xs.map fun c => .s c.nm) = some (xs.map Cr.nm) := by
  induction xs with
  | nil => rfl
  | cons a r ih => simp [kyS, ih]
def sortN (m : Md) : List Sg := srtB ltSg ((caseL m).map Cr.nm)
theorem sortN_mem {m : Md} {x : Sg} : x ∈ sortN m ↔ ∃ c ∈ caseL m, c.nm = x := by
  unfold sortN
  rw [srtB_mem, List.mem_map]
theorem sortN_len {m : Md} (g : m.G) : (sortN m).length ≤ 12 := by
  unfold sortN
  rw [srtB_len, List.length_map]
  exact caseL_len g
theorem srt_casD {m : Md} (g : m.G) : srtPV (casD m) = some ((sortN m).map .str) := by
  show (match kyS ((caseL m).map fun c : Cr => Ky.s c.nm) with
    | some ss => if Nat.blt ss.length 64 then some ((srtB ltSg ss).map PV.str) else none
    | none => match kyI ((caseL m).map fun c : Cr => Ky.s c.nm) with
      | some ns => if Nat.blt ns.length 64 then some ((srtB ltI ns).map PV.int) else none
      | none => none) = _
  rw [kyS_map]
  have : Nat.blt ((caseL m).map Cr.nm).length 64 = true := by
    have := caseL_len g
    simp [Nat.blt]
    omega
  simp only [this, if_true]
  rfl
/-! ways -/
def wayF (f : Fr) : PV := match f.sr with
  | none => .tup [.str CONST, f.ct]
  | some i => .tup [.str FROM, .int (i : Int)]
def wayX (b : Md) (x : Sg) : PV := .tup [.str x, .tup ((cb b x).map wayF)]
def stiX (b : Md) (x : Sg) : PV := .tup [.str x, .tup ((List.range (cb b x).length).map fun i : Nat => .tup [.str FROM, .int (i : Int)])]
theorem srcP_kept {olds news : List Fr} (hn : (olds.map Fr.nm).Nodup) (k : Kept olds news) {f : Fr} (hf : f ∈ news) : srcP (olds.map Fr.toF) f.toF = wayF f := by
  unfold srcP wayF
  rw [toF_nm, src_kept hn k hf (g := f.toF) rfl rfl]
  rfl
/-- a case and what becomes of it -/
theorem nx_case {a b : Md} (h : Nx a b) {T : Tr} (hT : T ∈ a.ts) {c : Cr} (hc : c ∈ T.cs) (gb : b.G) : ∃ T' ∈ b.ts, T'.nm = T.nm ∧ ∃ c' ∈ T'.cs, CR c c' ∧ cb b c.nm = c'.fs ∧ fieldsIn b.toP T.nm c.nm = some (c'.fs.map Fr.toF) := by
  obtain ⟨T', h1, tr⟩ := h.fw T hT
  obtain ⟨c', h2, cr⟩ := tr.fw c hc
  refine ⟨T', h1, tr.nm, c', h2, cr, ?_, ?_⟩
  · rw [← cr.nm]
    exact cb_mem gb (caseL_mem.mpr ⟨T', h1, h2⟩)
  · rw [← tr.nm, ← cr.nm]
    exact fin_mem gb h1 h2
theorem flat_map {α β γ : Type} (f : α → List β) (g : β → γ) (xs : List α) : (xs.map fun x => (f x).map g).flatten = ((xs.map f).flatten).map g := by
  induction xs with
  | nil => rfl
  | cons a r ih => simp [ih]
theorem map_congr' {α β : Type} {f g : α → β} {xs : List α} (h : ∀ x ∈ xs, f x = g x) : xs.map f = xs.map g := List.map_congr_left h
theorem wayU_eq {a b : Md} (ga : a.G) (gb : b.G) (h : Nx a b) : wayU a.toP b.toP = ((caseL a).map Cr.nm).map (wayX b) := by
  unfold wayU caseL
  rw [List.map_map, ← flat_map Tr.cs (wayX b ∘ Cr.nm)]
  show ((a.ts.map Tr.toK).map fun k => k.cs.map fun c => wayC b.toP k c).flatten = _
  rw [List.map_map]
  congr 1
  refine map_congr' fun T hT => ?_
  show (T.cs.map Cr.toC).map (fun c => wayC b.toP T.toK c) = _
  rw [List.map_map]
  refine map_congr' fun c hc => ?_
  obtain ⟨T', h1, h2, c', h3, cr, h5, h6⟩ := nx_case h hT hc gb
  show PV.tup [.str c.nm, .tup (((fieldsIn b.toP T.nm c.nm).getD []).map (srcP (c.fs.map Fr.toF)))] = wayX b c.nm
  unfold wayX
  rw [h5, h6]
  simp only [Option.getD_some, List.map_map]
  congr 4
  refine map_congr' fun f hf => ?_
  exact srcP_kept ((ga.ts T hT).cs c hc).nd cr.k.k hf
theorem wayS_eq {a b : Md} (ga : a.G) (gb : b.G) (h : Nx a b) : srtL (wayU a.toP b.toP) = some ((sortN a).map (wayX b)) := by
  rw [wayU_eq ga gb h]
  exact srtL_map (fun x => [.tup ((cb b x).map wayF)]) ga.names
/-- a first program stays as it is -/
theorem src_self {fs : List Fr} (hn : (fs.map Fr.nm).Nodup) (h : ∀ f ∈ fs, f.New) : (fs.map Fr.toF).map (srcP (fs.map Fr.toF)) = (List.range fs.length).map fun i : Nat => .tup [.str FROM, .int (i : Int)] := by
  apply List.ext_getElem?
  intro i
  rw [List.getElem?_map, List.getElem?_map, List.getElem?_map]
  cases hi : fs[i]? with
  | none =>
    rw [List.getElem?_eq_none (by simpa using List.getElem?_eq_none_iff.mp hi)]
    rfl
  | some f =>
    rw [List.getElem?_range (List.getElem?_eq_some_iff.mp hi).1]
    simp only [Option.map_some, Option.some.injEq]
    have hk : src ((fs.map Fr.toF).map Fd.nm) f.toF = some i := by
      rw [toF_nm]
      unfold src Fd.key
      have htd : f.toF.td = none := (h f (List.mem_of_getElem? hi)).td
      rw [htd]
      have := fI_nodup (n := 0) hn (show (fs.map Fr.nm)[i]? = some f.nm by rw [List.getElem?_map, hi]; rfl)
      rw [Nat.zero_add] at this
      exact this
    exact srcP_some hk
theorem wayU_self {a : Md} (ga : a.G) (na : a.New) : wayU a.toP a.toP = ((caseL a).map Cr.nm).map (stiX a) := by
  unfold wayU caseL
  rw [List.map_map, ← flat_map Tr.cs (stiX a ∘ Cr.nm)]
  show ((a.ts.map Tr.toK).map fun k => k.cs.map fun c => wayC a.toP k c).flatten = _
  rw [List.map_map]
  congr 1
  refine map_congr' fun T hT => ?_
  show (T.cs.map Cr.toC).map (fun c => wayC a.toP T.toK c) = _
  rw [List.map_map]
  refine map_congr' fun c hc => ?_
  show PV.tup [.str c.nm, .tup (((fieldsIn a.toP T.nm c.nm).getD []).map (srcP (c.fs.map Fr.toF)))] = stiX a c.nm
  unfold stiX
  rw [fin_mem ga hT hc, cb_mem ga (caseL_mem.mpr ⟨T, hT, hc⟩)]
  simp only [Option.getD_some]
  rw [src_self ((ga.ts T hT).cs c hc).nd (na.ts T hT c hc)]
theorem stiS_eq {a : Md} (ga : a.G) : srtL (((caseL a).map Cr.nm).map (stiX a)) = some ((sortN a).map (stiX a)) :=
  srtL_map (fun x => [.tup ((List.range (cb a x).length).map fun i : Nat => .tup [.str FROM, .int (i : Int)])]) ga.names
section
variable {fns : List Fn} {cs : List PV} {w n : Nat} {o : CI} {S : Sto}
theorem wbt_nx (F : WayF fns o) (n : Nat) (S : Sto) {a b : Md} (ga : a.G) (gb : b.G) (h : Nx a b) : callN fns cs w (n + 3) o.wbt [a.toP.pv, b.toP.pv] S = .ok (.tup ((sortN a).map (wayX b))) S := by
  refine wbt_eq F n S a.toP b.toP ga.ok gb.ok (fun k hk c hc => ?_) (wayS_eq ga gb h)
  obtain ⟨T, hT, rfl⟩ := List.mem_map.mp hk
  obtain ⟨c0, hc0, rfl⟩ := List.mem_map.mp hc
  obtain ⟨_, _, _, _, _, _, _, h6⟩ := nx_case h hT hc0 gb
  show (fieldsIn b.toP T.nm c0.nm).isSome = true
  rw [h6]
  rfl
theorem wbt_self (F : WayF fns o) (n : Nat) (S : Sto) {a : Md} (ga : a.G) (na : a.New) : callN fns cs w (n + 3) o.wbt [a.toP.pv, a.toP.pv] S = .ok (.tup ((sortN a).map (stiX a))) S := by
  refine wbt_eq F n S a.toP a.toP ga.ok ga.ok (fun k hk c hc => ?_) (by rw [wayU_self ga na]; exact stiS_eq ga)
  obtain ⟨T, hT, rfl⟩ := List.mem_map.mp hk
  obtain ⟨c0, hc0, rfl⟩ := List.mem_map.mp hc
  show (fieldsIn a.toP T.nm c0.nm).isSome = true
  rw [fin_mem ga hT hc0]
  rfl
theorem stw_eq (hs : fns[o.stw]? = some (stwFn o)) (n : Nat) (S : Sto) {a : Md} (ga : a.G) : callN fns cs w (n + 1) o.stw [a.toP.pv] S = .ok (.tup ((sortN a).map (stiX a))) S := by
  refine Ok.eq (ok_call hs rfl ?_)
  have L2 : 2 ≤ L := by decide
  have gl := ga.len
  have cl := caseL_len ga
  have fst : ∀ T ∈ a.ts, ∀ c ∈ T.cs, c.fs.length ≤ 4 := fun T hT c hc => ((ga.ts T hT).cs c hc).len
  have st := stiS_eq ga
  rw [List.map_map] at st
  have eT : ∀ T : Tr, T.toK.cs.map Cs.pv = T.cs.map (Cs.pv ∘ Cr.toC) := fun T => by simp [Tr.toK]
  have eS : ∀ l : List Cr, l.map (stiX a ∘ Cr.nm) = l.map fun c => stiX a c.nm := fun l => rfl
  rw [eS] at st
  simp [-Bool.exists_bool, stwFn, enter]
  rw [show a.toP.ks = a.ts.map Tr.toK from rfl, List.map_map]
  refine ok_formW (fun T : Tr => T.toK.pv) (fun r ρ S' => S' = S ∧ (∀ T ∈ r, T ∈ a.ts) ∧ ∃ (acc : List Cr) (s2 s3 s4 : Slot), ρ = [.val a.toP.pv, .val (.lst (acc.map fun c => stiX a c.nm)), s2, s3, s4] ∧ acc ++ (r.map Tr.cs).flatten = caseL a) (fun T r ρ S2 q => ?_) (fun ρ S2 q => ?_) ⟨rfl, fun T h => h, [], _, _, _, rfl, rfl⟩
  · obtain ⟨rfl, hm, acc, s2, s3, s4, rfl, he⟩ := q
    have hT := hm T List.mem_cons_self
    refine ⟨_, rfl, fun W w1 _ _ => ?_⟩
    rw [List.map_cons, List.flatten_cons] at he
    have al : acc.length + T.cs.length ≤ L := by
      have := congrArg List.length he
      simp only [List.length_append] at this
      unfold L
      omega
    have htl : T.cs.length ≤ L := by omega
    simp [-Bool.exists_bool, wipeE]
    rw [eT]
    refine ok_lcp (Cs.pv ∘ Cr.toC) (fun c => stiX a c.nm) htl (fun c hc => ⟨_, rfl, by simp [evTs], ?_⟩) ?_
    · have c4 := fst T hT c hc
      have cL : c.fs.length ≤ L := by unfold L; omega
      have c62 : c.fs.length < 2 ^ 62 := by omega
      have ec : cb a c.nm = c.fs := cb_mem ga (caseL_mem.mpr ⟨T, hT, hc⟩)
      simp [-Bool.exists_bool, wipeE, Cr.toC, c62]
      rw [rngI_0]
      refine ok_lcp (fun i : Nat => PV.int (i : Int)) (fun i => .tup [.str FROM, .int (i : Int)]) (by simpa using cL) (fun i hi => ⟨_, rfl, by simp [evTs], by simp [-Bool.exists_bool, L2]⟩) ?_
      simp [-Bool.exists_bool, L2]
      unfold stiX
      rw [ec]
    · simp [-Bool.exists_bool, al]
      exact w1 _ _ ⟨rfl, fun U hU => hm U (List.mem_cons_of_mem _ hU), acc ++ T.cs, _, _, _, by rw [List.map_append], by simpa using he⟩
  · obtain ⟨rfl, hm, acc, s2, s3, s4, rfl, he⟩ := q
    simp only [List.map_nil, List.flatten_nil, List.append_nil] at he
    subst he
    simp [-Bool.exists_bool]
    exact st
end
end Mn
end

section
set_option linter.all false
set_option autoImplicit false
set_option maxRecDepth 100000
set_option maxHeartbeats 1000000
/-! MnDrwC: how long the texts of drawn things are. -/
namespace Mn
open PySem PySem.Spec PyProof.Rows
def ALLS : List Sg := [FROM, CONST, [], [97], [110, 111], [49, 50, 51, 52, 53, 54, 55, 56], [120], [121, 101, 115], [111, 98, 106, 101, 99, 116]] ++ NAMES ++ (TN ++ (TN.map cn).flatten)
theorem shS0 : ∀ x ∈ ALLS, PyData.showable (toD (.str x)) = true ∧ (shw (.str x)).length ≤ 60 ∧ okS x = true := by decide +kernel
theorem shS {x : Sg} (h : x ∈ ALLS) (n : Nat) : Sh n 60 (.str x) := ⟨flat_str (shS0 x h).2.2 n, (shS0 x h).1, (shS0 x h).2.1⟩
theorem shN (n : Nat) : Sh n 60 .non := ⟨by cases n <;> rfl, rfl, by show (shw .non).length ≤ 60; decide +kernel⟩
theorem cn_alls {t : Sg} (ht : t ∈ TN) {x : Sg} (hx : x ∈ cn t) : x ∈ ALLS := by
  unfold ALLS
  exact List.mem_append_right _ (List.mem_append_right _ (List.mem_flatten.mpr ⟨cn t, List.mem_map.mpr ⟨t, ht, rfl⟩, hx⟩))
theorem ct_alls {x : Sg} (hx : x ∈ CT) : x ∈ ALLS := by
  simp only [CT, List.mem_cons, List.not_mem_nil, or_false] at hx
  rcases hx with rfl | rfl | rfl | rfl <;> decide
theorem isCt.sh {t : TyK} {c : PV} (h : isCt t c) (n : Nat) : Sh n 60 c := by
  rcases h with ⟨_, i, rfl, h1, h2⟩ | ⟨_, x, hx, rfl⟩
  · exact sh_i10 n (by omega)
  · exact shS (ct_alls hx) n
theorem Fr.G.shc {f : Fr} (g : f.G) (n : Nat) : Sh n 60 f.ct := by
  rcases g.ct with h | h
  · rw [h]; exact shN n
  · exact h.sh n
theorem shO {s : Option Nat} (h : ∀ i, s = some i → i < 100) (n : Nat) : Sh n 60 (optP s) := by
  cases s with
  | none => exact shN n
  | some i =>
    have hi := h i rfl
    exact sh_i10 n (by omega)
theorem shI {i : Nat} (h : i < 1000) (n : Nat) : Sh n 60 (.int (i : Int)) := sh_i10 n (by omega)
theorem shF (n : Nat) : Sh n 60 (.str FROM) := shS (by decide) n
theorem shC (n : Nat) : Sh n 60 (.str CONST) := shS (by decide) n
theorem Sh.pair {n b : Nat} {p q : PV} (hp : Sh n b p) (hq : Sh n b q) : Sh (n + 1) (2 * (b + 2) + 3) (.tup [p, q]) :=
  Sh.tup (xs := [p, q]) fun x hx => by
    simp only [List.mem_cons, List.not_mem_nil, or_false] at hx
    rcases hx with rfl | rfl
    · exact hp
    · exact hq
theorem Sh.le' {n b : Nat} {p : PV} (h : Sh n b p) {b' : Nat} (k : b ≤ b') : Sh n b' p := h.mono k
theorem Sh.tupN {n b m : Nat} {xs : List PV} (h : ∀ x ∈ xs, Sh n b x) (hl : xs.length ≤ m) : Sh (n + 1) (m * (b + 2) + 3) (.tup xs) :=
  (Sh.tup h).mono (by have := Nat.mul_le_mul_right (b + 2) hl; omega)
theorem shWayF {f : Fr} (g : f.G) (n : Nat) : Sh (n + 1) 127 (wayF f) := by
  unfold wayF
  cases h : f.sr with
  | none => exact (Sh.pair (shC n) (g.shc n)).mono (by decide)
  | some i => exact (Sh.pair (shF n) (shI (by have := g.sr i h; omega) n)).mono (by decide)
theorem cb_g {m : Md} (g : m.G) (x : Sg) : (cb m x).length ≤ 4 ∧ ∀ f ∈ cb m x, f.G := by
  unfold cb
  cases h : (caseL m).find? fun c => c.nm == x with
  | none => exact ⟨by simp, fun f h => (by cases h)⟩
  | some c =>
    obtain ⟨T, hT, hc⟩ := caseL_mem.mp (List.mem_of_find?_eq_some h)
    have cg := (g.ts T hT).cs c hc
    exact ⟨cg.len, cg.fs⟩
theorem sortN_alls {m : Md} (g : m.G) {x : Sg} (h : x ∈ sortN m) : x ∈ ALLS := by
  obtain ⟨c, hc, rfl⟩ := sortN_mem.mp h
  obtain ⟨T, hT, hc2⟩ := caseL_mem.mp hc
  exact cn_alls (g.ts T hT).nm ((g.ts T hT).cs c hc2).nm
theorem shWay {a b : Md} (ga : a.G) (gb : b.G) (n : Nat) : Sh (n + 4) 20000 (.tup ((sortN a).map (wayX b))) := by
  refine (Sh.tupN (n := n + 3) (b := 1100) (m := 12) (fun x hx => ?_) (by rw [List.length_map]; exact sortN_len ga)).mono (by decide)
  obtain ⟨y, hy, rfl⟩ := List.mem_map.mp hx
  obtain ⟨h1, h2⟩ := cb_g gb y
  have hs := (shS (sortN_alls ga hy) (n + 2)).mono (show 60 ≤ 519 by decide)
  refine (Sh.pair hs ((Sh.tupN (n := n + 1) (b := 127) (m := 4) (fun z hz => ?_) (by simpa using h1)).mono (by decide))).mono (by decide)
  obtain ⟨f, hf, rfl⟩ := List.mem_map.mp hz
  exact shWayF (h2 f hf) n
theorem shSti {a b : Md} (ga : a.G) (gb : b.G) (n : Nat) : Sh (n + 4) 20000 (.tup ((sortN a).map (stiX b))) := by
  refine (Sh.tupN (n := n + 3) (b := 1100) (m := 12) (fun x hx => ?_) (by rw [List.length_map]; exact sortN_len ga)).mono (by decide)
  obtain ⟨y, hy, rfl⟩ := List.mem_map.mp hx
  obtain ⟨h1, h2⟩ := cb_g gb y
  have hs := (shS (sortN_alls ga hy) (n + 2)).mono (show 60 ≤ 519 by decide)
  refine (Sh.pair hs ((Sh.tupN (n := n + 1) (b := 127) (m := 4) (fun z hz => ?_) (by simpa using h1)).mono (by decide))).mono (by decide)
  obtain ⟨i, hi, rfl⟩ := List.mem_map.mp hz
  have := List.mem_range.mp hi
  exact (Sh.pair (shF n) (shI (by omega) n)).mono (by decide)
def rp (p : PV) : Sg := (shw p).cps.toList
theorem repr_rp {p : PV} {n b : Nat} (h : Sh n b p) (hn : n ≤ 60) (hb : b ≤ 16777216) : bltPV .repr [p] = some (.str (rp p)) := repr_ok h hn hb
end Mn
end

section
set_option linter.all false
set_option autoImplicit false
set_option maxRecDepth 100000
set_option maxHeartbeats 1000000
/-! MnDrwD: values brought from program to program. -/
namespace Mn
theorem dr_dctv (S : Sto) (ks : List Ky) (vs : List PV) : dr S (.dct ks vs) = .dct ks vs := rfl
/-- a dict of pairs with names that differ -/
theorem pairs_map (W : Sg → PV) : ∀ xs : List Sg, pairsOf (xs.map fun x => .tup [.str x, W x]) = some (xs.map fun x => (.s x, W x))
  | [] => rfl
  | x :: r => by
    simp only [List.map_cons, pairsOf, kyOf, Option.bind_some, pairs_map W r, Option.map_some]
theorem putAll_map (W : Sg → PV) : ∀ (xs done : List Sg), (done ++ xs).Nodup → putAll (xs.map fun x => (.s x, W x)) (done.map .s, done.map W) = ((done ++ xs).map .s, (done ++ xs).map W)
  | [], done, _ => by simp [putAll]
  | x :: r, done, h => by
    have hx : Ky.s x ∉ done.map Ky.s := fun hm => by
      obtain ⟨y, hy, e⟩ := List.mem_map.mp hm
      simp only [Ky.s.injEq] at e
      subst e
      rw [List.nodup_append] at h
      exact h.2.2 y hy y (by simp) rfl
    simp only [List.map_cons, putAll]
    rw [put_new hx]
    have := putAll_map W r (done ++ [x]) (by simpa using h)
    simp only [List.map_append, List.map_cons, List.map_nil, List.append_assoc, List.cons_append, List.nil_append] at this ⊢
    exact this
theorem dct_map (W : Sg → PV) {xs : List Sg} (h : xs.Nodup) : dctPV (.lst (xs.map fun x => .tup [.str x, W x])) = some (.dct (xs.map .s) (xs.map W)) := by
  show (pairsOf _).map _ = _
  rw [pairs_map]
  have := putAll_map W xs [] (by simpa using h)
  simp only [List.map_nil, List.nil_append] at this
  simp only [Option.map_some, this]
theorem dct_get (W : Sg → PV) {xs : List Sg} {x : Sg} (h : x ∈ xs) : ixPV (.dct (xs.map .s) (xs.map W)) (.str x) = some (W x) := by
  show findD (.s x) (xs.map .s) (xs.map W) = _
  induction xs with
  | nil => cases h
  | cons y r ih =>
    simp only [List.map_cons, findD, Ky.s.injEq]
    by_cases e : y = x
    · rw [if_pos e, e]
    · rw [if_neg e]
      rcases List.mem_cons.mp h with h | h
      · exact absurd h.symm e
      · exact ih h
theorem sortN_nd {m : Md} (g : m.G) : (sortN m).Nodup := by
  have key : ∀ (lt : Sg → Sg → Bool) (x : Sg) (xs : List Sg), (insB lt x xs).Perm (x :: xs) := fun lt x xs => by
    induction xs with
    | nil => exact List.Perm.refl _
    | cons y r ih =>
      simp only [insB]
      split
      · exact List.Perm.refl _
      · exact (List.Perm.cons y ih).trans (List.Perm.swap x y r)
  have key2 : ∀ (lt : Sg → Sg → Bool) (xs : List Sg), (srtB lt xs).Perm xs := fun lt xs => by
    induction xs with
    | nil => exact List.Perm.refl _
    | cons y r ih =>
      simp only [srtB]
      exact (key lt y _).trans (List.Perm.cons y ih)
  exact (key2 ltSg _).nodup_iff.mpr g.names
/-- one step -/
def stepV (fs : List Fr) (vs : List PV) : List PV := fs.map fun f => match f.sr with
  | none => f.ct
  | some i => (vs[i]?).getD .non
theorem stepV_len (fs : List Fr) (vs : List PV) : (stepV fs vs).length = fs.length := by simp [stepV]
/-- where all that is told of stands -/
def SrOk (k : Nat) (fs : List Fr) : Prop := ∀ f ∈ fs, ∀ i, f.sr = some i → i < k
theorem Kept.sr {olds news : List Fr} (h : Kept olds news) : SrOk olds.length news := fun f hf i hi => by
  obtain ⟨q, hq, _⟩ := h.k f hf i hi
  exact (List.getElem?_eq_some_iff.mp hq).1
structure BroF (fns : List Fn) (o : CI) : Prop extends WayF fns o where
  byw : fns[o.byw]? = some (bywFn o)
  von : fns[o.von]? = some (vonFn o)
  brg : fns[o.brg]? = some (brgFn o)
  lrow : fns[o.lrow]? = some (lrowFn o)
  lstp : fns[o.lstp]? = some (lstpFn o)
/-- a case of one program, in the next -/
theorem nx_name {a b : Md} (h : Nx a b) (gb : b.G) {x : Sg} (hx : x ∈ sortN a) : x ∈ sortN b ∧ KeptF (cb a x) (cb b x) ∨ ¬ a.G := by
  by_cases ga : a.G
  · left
    obtain ⟨c, hc, rfl⟩ := sortN_mem.mp hx
    obtain ⟨T, hT, hcT⟩ := caseL_mem.mp hc
    obtain ⟨T', h1, h2, c', h3, cr, h5, h6⟩ := nx_case h hT hcT gb
    refine ⟨sortN_mem.mpr ⟨c', caseL_mem.mpr ⟨T', h1, h3⟩, cr.nm⟩, ?_⟩
    rw [cb_mem ga hc, h5]
    exact cr.k
  · exact .inr ga
theorem nx_name' {a b : Md} (h : Nx a b) (ga : a.G) (gb : b.G) {x : Sg} (hx : x ∈ sortN a) : x ∈ sortN b ∧ KeptF (cb a x) (cb b x) := (nx_name h gb hx).resolve_right (fun n => n ga)
section
variable {fns : List Fn} {cs : List PV} {w n : Nat} {o : CI} {S : Sto}
theorem lstp_eq (F : BroF fns o) (n : Nat) (S : Sto) {fs : List Fr} {vs : List PV} (hs : SrOk vs.length fs) (hl : fs.length ≤ 100) : callN fns cs w (n + 1) o.lstp [.lst (fs.map Fr.pv), .tup vs] S = .ok (.tup (stepV fs vs)) S := by
  refine Ok.eq (ok_call F.lstp rfl ?_)
  simp [-Bool.exists_bool, lstpFn, enter, wipeE]
  refine ok_lcp Fr.pv (fun f => match f.sr with | none => f.ct | some i => (vs[i]?).getD .non) (by unfold L; omega) (fun f hf => ⟨_, rfl, by simp [evTs], ?_⟩) ?_
  · cases h : f.sr with
    | none => simp [-Bool.exists_bool, h, optP]
    | some i =>
      have hi := hs f hf i h
      have ix : atPV vs (i : Int) = some vs[i] := by rw [at_nat]; exact List.getElem?_eq_getElem hi
      simp [-Bool.exists_bool, h, optP, ix, hi]
  · simp [-Bool.exists_bool, stepV]
theorem byw_eq (F : BroF fns o) (n : Nat) (S : Sto) {ns : List Sg} (hn : ns.Nodup) (hl : ns.length ≤ 100) (fs : Sg → List Fr) {x : Sg} (hx : x ∈ ns) {vs : List PV} (hs : SrOk vs.length (fs x)) (hf : (fs x).length ≤ 100) :
    callN fns cs w (n + 1) o.byw [.tup (ns.map fun y => .tup [.str y, .tup ((fs y).map wayF)]), .str x, .tup vs] S = .ok (.tup (stepV (fs x) vs)) S := by
  refine Ok.eq (ok_call F.byw rfl ?_)
  have d1 := dct_map (fun y => .tup ((fs y).map wayF)) hn
  have d2 := dct_get (fun y => PV.tup ((fs y).map wayF)) hx
  have li : ∀ xs, listOf (.tup xs) = some xs := fun _ => rfl
  simp [-Bool.exists_bool, bywFn, enter, wipeE, li, d1, dr_dctv, d2]
  refine ok_lcp wayF (fun f => match f.sr with | none => f.ct | some i => (vs[i]?).getD .non) (by unfold L; omega) (fun f hf => ⟨_, rfl, by simp [evTs], ?_⟩) ?_
  · unfold wayF
    cases h : f.sr with
    | none =>
      have e : (CONST == FROM) = false := by decide
      simp [-Bool.exists_bool, h, e]
    | some i =>
      have hi := hs f hf i h
      have ix : atPV vs (i : Int) = some vs[i] := by rw [at_nat]; exact List.getElem?_eq_getElem hi
      simp [-Bool.exists_bool, h, ix, hi]
  · simp [-Bool.exists_bool, stepV]
theorem von_case (F : BroF fns o) (n : Nat) (S : Sto) {a b : Md} (ga : a.G) (gb : b.G) (h : Nx a b) {x : Sg} (hx : x ∈ sortN a) {vs : List PV} (hv : vs.length = (cb a x).length) :
    callN fns cs w (n + 4) o.von [a.toP.pv, b.toP.pv, .str x, .tup vs] S = .ok (.tup (stepV (cb b x) vs)) S := by
  refine Ok.eq (ok_call F.von rfl ?_)
  have e1 := fun n => wbt_nx (cs := cs) (w := w) F.toWayF n S ga gb h
  have kx := (nx_name' h ga gb hx).2.k.sr
  rw [← hv] at kx
  have e2 := fun n => byw_eq (cs := cs) (w := w) F n S (sortN_nd ga) (by have := sortN_len ga; omega) (cb b) hx kx (by have := (cb_g gb x).1; omega)
  simp [-Bool.exists_bool, vonFn, enter, e1]
  have e3 : ((sortN a).map (wayX b)) = (sortN a).map fun y => .tup [.str y, .tup ((cb b y).map wayF)] := rfl
  rw [e3]
  simp [-Bool.exists_bool, e2]
theorem von_root (F : BroF fns o) (n : Nat) (S : Sto) {a b : Md} (ga : a.G) (gb : b.G) (h : Nx a b) {vs : List PV} (hv : vs.length = a.rs.length) (hn : ∀ f ∈ b.rs, f.sr ≠ none) :
    callN fns cs w (n + 4) o.von [a.toP.pv, b.toP.pv, .non, .tup vs] S = .ok (.tup (stepV b.rs vs)) S := by
  refine Ok.eq (ok_call F.von rfl ?_)
  have q7 : ∀ n, callN fns cs w (n + 2) o.rwy [a.toP.pv, b.toP.pv] S = .ok (.tup (b.rs.map fun f => optP f.sr)) S := fun n => by
    have := rwy_eq (w := w) (cs := cs) (o := o) F.toWayF n S a.toP b.toP ga.ok gb.ok
    have e : (b.toP.rs.map fun f => optP (src (a.toP.rs.map Fd.nm) f)) = b.rs.map fun f => optP f.sr := by
      rw [show b.toP.rs = b.rs.map Fr.toR from rfl, List.map_map]
      refine map_congr' fun f hf => ?_
      show optP (src ((a.rs.map Fr.toR).map Fd.nm) f.toR) = _
      rw [toR_nm, src_kept ga.rn h.rs hf rfl rfl]
    rw [e] at this
    exact this
  have rl := gb.lr
  simp [-Bool.exists_bool, vonFn, enter, q7, wipeE]
  refine ok_lcp (fun f : Fr => optP f.sr) (fun f => match f.sr with | none => f.ct | some i => (vs[i]?).getD .non) (by unfold L; omega) (fun f hf => ⟨_, rfl, by simp [evTs], ?_⟩) ?_
  · cases hs : f.sr with
    | none => exact absurd hs (hn f hf)
    | some i =>
      have hi := h.rs.sr f hf i hs
      rw [← hv] at hi
      have ix : atPV vs (i : Int) = some vs[i] := by rw [at_nat]; exact List.getElem?_eq_getElem hi
      simp [-Bool.exists_bool, hs, optP, ix, hi]
  · simp [-Bool.exists_bool, stepV]
/-- a value of a row -/
def isVal (p : PV) : Prop := (∃ i : Int, p = .int i ∧ -1000 < i ∧ i < 1000) ∨ (∃ x ∈ ALLS, p = .str x) ∨ ∃ i : Int, p = .tup [.str [111, 98, 106, 101, 99, 116], .int i] ∧ -1000 < i ∧ i < 1000
theorem isVal.sh {p : PV} (h : isVal p) (n : Nat) : Sh (n + 1) 127 p := by
  rcases h with ⟨i, rfl, h1, h2⟩ | ⟨x, hx, rfl⟩ | ⟨i, rfl, h1, h2⟩
  · exact (sh_i10 (n + 1) (by omega)).mono (by decide)
  · exact (shS hx (n + 1)).mono (by decide)
  · exact (Sh.pair (shS (by decide) n) (sh_i10 n (by omega))).mono (by decide)
theorem isCt.val {t : TyK} {c : PV} (h : isCt t c) : isVal c := by
  rcases h with ⟨_, i, rfl, h1, h2⟩ | ⟨_, x, hx, rfl⟩
  · exact .inl ⟨i, rfl, by omega, by omega⟩
  · exact .inr (.inl ⟨x, ct_alls hx, rfl⟩)
/-- a value that fits a type -/
def fitV (t : TyK) (p : PV) : Prop := (t = .int ∧ ∃ i : Int, p = .int i) ∨ (t = .text ∧ ∃ x, p = .str x) ∨ (t ≠ .int ∧ t ≠ .text ∧ ∃ i : Int, p = .tup [.str [111, 98, 106, 101, 99, 116], .int i])
def RowW (fs : List Fr) (S : Sto) (p : PV) (S' : Sto) : Prop := ∃ vs, p = .tup vs ∧ vs.length = fs.length ∧ (∀ v ∈ vs, isVal v) ∧ (∀ (i : Nat) f v, fs[i]? = some f → vs[i]? = some v → fitV f.ty v) ∧ Cup S' ∧ Later S S'
theorem lrow_ok (F : BroF fns o) (D : DrwF fns o) (hc : Cup S) (fs : List Fr) (hg : ∀ f ∈ fs, f.G) (hl : fs.length ≤ 10) : Ok (callN fns cs w (n + 3) o.lrow [.ref 0, .lst (fs.map Fr.pv)] S) (RowW fs S) := by
  refine ok_call F.lrow rfl ?_
  have L1 : 1 ≤ L := by decide
  have L2 : 2 ≤ L := by decide
  have L3 : 3 ≤ L := by decide
  simp [-Bool.exists_bool, lrowFn, enter]
  refine ok_formW Fr.pv (fun r ρ S' => Cup S' ∧ Later S S' ∧ ∃ (done : List Fr) (vs : List PV) (s3 : Slot), ρ = [.val (.ref 0), .val (.lst (fs.map Fr.pv)), .own vs, s3] ∧ done ++ r = fs ∧ vs.length = done.length ∧ (∀ v ∈ vs, isVal v) ∧ (∀ (i : Nat) f v, done[i]? = some f → vs[i]? = some v → fitV f.ty v)) (fun f r ρ S2 q => ?_) (fun ρ S2 q => ?_) ⟨hc, .refl S, [], [], _, rfl, rfl, rfl, fun v h => (by cases h), fun i f v h => (by simp at h)⟩
  · obtain ⟨hc2, hl2, done, vs, s3, rfl, he, hlen, hv, hfit⟩ := q
    refine ⟨_, rfl, fun W w1 _ _ => ?_⟩
    have fg := hg f (by rw [← he]; simp)
    have vl : vs.length < L := by
      have := congrArg List.length he
      simp only [List.length_append, List.length_cons] at this
      unfold L
      omega
    have fin : ∀ (v : PV) (S3 : Sto) (s3 : Slot), isVal v → fitV f.ty v → Cup S3 → Later S S3 → W (.nx [.val (.ref 0), .val (.lst (fs.map Fr.pv)), .own (vs ++ [v]), s3]) S3 := fun v S3 s3 h1 h2 h3 h4 =>
      w1 _ _ ⟨h3, h4, done ++ [f], vs ++ [v], s3, rfl, by simpa using he, by simp [hlen], fun x hx => by
        rcases List.mem_append.mp hx with h | h
        · exact hv x h
        · rw [List.mem_singleton.mp h]; exact h1, fun i g u h5 h6 => by
        rcases Nat.lt_or_ge i done.length with hi | hi
        · rw [List.getElem?_append_left hi] at h5
          rw [List.getElem?_append_left (by omega)] at h6
          exact hfit i g u h5 h6
        · rw [List.getElem?_append_right hi] at h5
          rw [List.getElem?_append_right (by omega)] at h6
          have e0 : i - done.length = 0 := by
            have := (List.getElem?_eq_some_iff.mp h5).1
            simp at this
            omega
          have e1 : i - vs.length = 0 := by omega
          rw [e0] at h5
          rw [e1] at h6
          cases h5
          cases h6
          exact h2⟩
    have ei := eq_int' f.ty fg.ty
    have eI : cmpPV .eq (TyK.pv .int) tINT = some true := rfl
    have eT : cmpPV .eq (TyK.pv .text) tINT = some false := rfl
    have eX : cmpPV .eq (TyK.pv .text) tTEXT = some true := rfl
    have et : cmpPV .eq f.ty.pv tTEXT = some (decide (f.ty = .text)) := by
      rw [eq_flat (TyK.flat fg.ty 58) rfl]
      cases f.ty with
      | int => rfl
      | text => rfl
      | own => rfl
      | of m b => cases b <;> rfl
    by_cases h1 : f.ty = .int
    · simp [-Bool.exists_bool, h1, eI, L1]
      refine (roll_ok (n := n + 1) D.roll hc2 (many := 100) (by omega) (by omega)).mono fun p S3 q => ?_
      obtain ⟨v, rfl, hv2, hc3, hl3⟩ := q
      simp [-Bool.exists_bool, vl]
      exact fin _ _ _ (.inl ⟨_, rfl, by omega, by omega⟩) (.inl ⟨h1, _, rfl⟩) hc3 (hl2.trans hl3)
    · by_cases h2 : f.ty = .text
      · simp [-Bool.exists_bool, h2, eT, eX, L1, L3]
        refine (some_ok (n := n) D.some_ D.roll hc2 (.inl rfl) (by simp) (by simp) (by simp)).mono fun p S3 q => ?_
        obtain ⟨hp, hc3, hl3⟩ := q
        simp [-Bool.exists_bool, vl]
        have : ∃ x ∈ ALLS, p = .str x := by
          simp only [List.mem_cons, List.not_mem_nil, or_false] at hp
          rcases hp with rfl | rfl | rfl
          · exact ⟨_, by decide, rfl⟩
          · exact ⟨_, by decide, rfl⟩
          · exact ⟨_, by decide, rfl⟩
        obtain ⟨x, hx, rfl⟩ := this
        exact fin _ _ _ (.inr (.inl ⟨x, hx, rfl⟩)) (.inr (.inl ⟨h2, x, rfl⟩)) hc3 (hl2.trans hl3)
      · simp [-Bool.exists_bool, ei, et, h1, h2, L1, L2]
        refine (roll_ok (n := n + 1) D.roll hc2 (many := 9) (by omega) (by omega)).mono fun p S3 q => ?_
        obtain ⟨v, rfl, hv2, hc3, hl3⟩ := q
        simp [-Bool.exists_bool, vl, L2]
        exact fin _ _ _ (.inr (.inr ⟨_, rfl, by omega, by omega⟩)) (.inr (.inr ⟨h1, h2, _, rfl⟩)) hc3 (hl2.trans hl3)
  · obtain ⟨hc2, hl2, done, vs, s3, rfl, he, hlen, hv, hfit⟩ := q
    rw [List.append_nil] at he
    subst he
    simp [-Bool.exists_bool]
    exact ⟨vs, rfl, hlen, hv, hfit, hc2, hl2⟩
end
end Mn
end

section
set_option linter.all false
set_option autoImplicit false
set_option maxRecDepth 100000
set_option maxHeartbeats 1000000
/-! MnDrwE: values brought through a chain of programs. -/
namespace Mn
def camK (K : Md → List Fr) (ms : List Md) (vs : List PV) : List PV := ms.foldl (fun vs m => stepV (K m) vs) vs
theorem camK_cons (K : Md → List Fr) (m : Md) (ms : List Md) (vs : List PV) : camK K (m :: ms) vs = camK K ms (stepV (K m) vs) := rfl
theorem camK_nil (K : Md → List Fr) (vs : List PV) : camK K [] vs = vs := rfl
def Pgs (c : List Md) : PV := .tup (c.map fun m => m.toP.pv)
theorem at_pred {α : Type} {xs : List α} {m : Nat} (h : 1 ≤ m) : atPV xs ((m : Int) - 1) = xs[m - 1]? := by
  have : ((m : Int) - 1) = ((m - 1 : Nat) : Int) := by omega
  rw [this, at_nat]
theorem drop_get {α : Type} {xs : List α} {m : Nat} {a : α} (h : xs[m]? = some a) : xs.drop m = a :: xs.drop (m + 1) := by
  obtain ⟨h1, h2⟩ := List.getElem?_eq_some_iff.mp h
  rw [List.drop_eq_getElem_cons h1, h2]
/-- the state amid a walk through a chain -/
structure Mid (c : List Md) (K : Md → List Fr) (v : Nat) (vs : List PV) (m : Nat) (us : List PV) : Prop where
  len : ∀ a, c[m - 1]? = some a → us.length = (K a).length
  val : ∀ u ∈ us, isVal u
  cam : camK K (c.drop m) us = camK K (c.drop v) vs
theorem Mid.start {c : List Md} {K : Md → List Fr} {v : Nat} {vs : List PV} (h : ∀ a, c[v - 1]? = some a → vs.length = (K a).length) (hv : ∀ u ∈ vs, isVal u) : Mid c K v vs v vs := ⟨h, hv, rfl⟩
theorem step_val {fs : List Fr} {vs : List PV} (hv : ∀ u ∈ vs, isVal u) (hs : SrOk vs.length fs) (hn : ∀ f ∈ fs, f.sr = none → isCt f.ty f.ct) : ∀ u ∈ stepV fs vs, isVal u := fun u hu => by
  obtain ⟨f, hf, rfl⟩ := List.mem_map.mp hu
  cases h : f.sr with
  | none => exact (hn f hf h).val
  | some i =>
    have hi := hs f hf i h
    simp only [List.getElem?_eq_getElem hi, Option.getD_some]
    exact hv _ (List.getElem_mem hi)
theorem Mid.next {c : List Md} {K : Md → List Fr} {v : Nat} {vs : List PV} {m : Nat} {us : List PV} (h : Mid c K v vs m us) (h1 : 1 ≤ m) {b : Md} (hb : c[m]? = some b) (hs : SrOk us.length (K b)) (hn : ∀ f ∈ K b, f.sr = none → isCt f.ty f.ct) : Mid c K v vs (m + 1) (stepV (K b) us) where
  len := fun a ha => by
    rw [Nat.add_sub_cancel] at ha
    rw [hb] at ha
    cases ha
    exact stepV_len _ _
  val := step_val h.val hs hn
  cam := by
    rw [← h.cam, drop_get hb, camK_cons]
/-- how a chain takes one more step -/
structure Goes (c : List Md) (K : Md → List Fr) (v : Nat) : Prop where
  go : ∀ (i : Nat) (a b : Md), v ≤ i + 1 → c[i]? = some a → c[i + 1]? = some b → SrOk (K a).length (K b) ∧ ∀ f ∈ K b, f.sr = none → isCt f.ty f.ct
theorem names_on {c : List Md} (hc : Chain c) {x : Sg} : ∀ (k v : Nat) (a b : Md), c[v]? = some a → x ∈ sortN a → c[v + k]? = some b → x ∈ sortN b
  | 0, v, a, b, ha, hx, hb => by
    rw [Nat.add_zero, ha] at hb
    cases hb
    exact hx
  | k + 1, v, a, b, ha, hx, hb => by
    obtain ⟨d, hd⟩ : ∃ d, c[v + k]? = some d := ⟨_, List.getElem?_eq_getElem (by have := (List.getElem?_eq_some_iff.mp hb).1; omega)⟩
    have hxd := names_on hc k v a d ha hx hd
    exact (nx_name' (hc.nx hd hb) (hc.g d (List.mem_of_getElem? hd)) (hc.g b (List.mem_of_getElem? hb)) hxd).1
theorem goes_case {c : List Md} (hc : Chain c) {v : Nat} (h1 : 1 ≤ v) {x : Sg} {a0 : Md} (ha0 : c[v - 1]? = some a0) (hx : x ∈ sortN a0) : Goes c (fun m => cb m x) v where
  go := fun i a b hi ha hb => by
    have hxa : x ∈ sortN a := names_on hc (i - (v - 1)) (v - 1) a0 a ha0 hx (by rw [show v - 1 + (i - (v - 1)) = i by omega]; exact ha)
    have k := (nx_name' (hc.nx ha hb) (hc.g a (List.mem_of_getElem? ha)) (hc.g b (List.mem_of_getElem? hb)) hxa).2
    exact ⟨k.k.sr, k.c⟩
section
variable {fns : List Fn} {cs : List PV} {w n : Nat} {o : CI} {S : Sto}
theorem brg_eq (F : BroF fns o) (n : Nat) (S : Sto) {c : List Md} (hl : c.length ≤ 100) {K : Md → List Fr} {v : Nat} (h1 : 1 ≤ v) (hv : v ≤ c.length) {vs : List PV} (hm : Mid c K v vs v vs) (cv : PV) (num : Int) (G : Goes c K v)
    (st : ∀ (i : Nat) (a b : Md) (us : List PV), v ≤ i + 1 → c[i]? = some a → c[i + 1]? = some b → us.length = (K a).length → callN fns cs w n o.von [a.toP.pv, b.toP.pv, cv, .tup us] S = .ok (.tup (stepV (K b) us)) S) :
    callN fns cs w (n + 1) o.brg [Pgs c, .tup [.int num, cv, .int (v : Int), .tup vs]] S = .ok (.tup [.int num, cv, .int (c.length : Int), .tup (camK K (c.drop v) vs)]) S := by
  refine Ok.eq (ok_call F.brg rfl ?_)
  have L4 : 4 ≤ L := by decide
  have hv62 : v < 2 ^ 62 := by omega
  have hc62 : c.length < 2 ^ 62 := by omega
  have e1 : ((c.length : Int) - (v : Int)).toNat = c.length - v := by omega
  simp [-Bool.exists_bool, brgFn, enter, Pgs, hv62, hc62, e1]
  rw [rngI_map]
  refine ok_formW (fun i : Nat => .int (i : Int)) (fun r ρ S' => S' = S ∧ ∃ (m : Nat) (us : List PV) (s6 : Slot), ρ = [.val (Pgs c), .val (.tup [.int num, cv, .int (v : Int), .tup vs]), .val (.int num), .val cv, .val (.int (v : Int)), .val (.tup us), s6] ∧ r = List.range' m (c.length - m) ∧ v ≤ m ∧ m ≤ c.length ∧ Mid c K v vs m us) (fun i r ρ S2 q => ?_) (fun ρ S2 q => ?_) ⟨rfl, v, vs, _, rfl, rfl, Nat.le_refl _, hv, hm⟩
  · obtain ⟨rfl, m, us, s6, rfl, er, hvm, hmc, hmid⟩ := q
    have hlt : m < c.length := by
      rcases Nat.lt_or_ge m c.length with h | h
      · exact h
      · rw [show c.length - m = 0 by omega] at er; cases er
    rw [show c.length - m = (c.length - (m + 1)) + 1 by omega, List.range'_succ, List.cons.injEq] at er
    obtain ⟨rfl, rfl⟩ := er
    refine ⟨_, rfl, fun W w1 _ _ => ?_⟩
    obtain ⟨a, ha⟩ : ∃ a, c[i - 1]? = some a := ⟨_, List.getElem?_eq_getElem (by omega)⟩
    obtain ⟨b, hb⟩ : ∃ b, c[i]? = some b := ⟨_, List.getElem?_eq_getElem hlt⟩
    have hb' : c[i - 1 + 1]? = some b := by rw [show i - 1 + 1 = i by omega]; exact hb
    have ix1 : atPV (c.map fun m => m.toP.pv) ((i : Int) - 1) = some a.toP.pv := by rw [at_pred (by omega), List.getElem?_map, ha]; rfl
    have ix2 : atPV (c.map fun m => m.toP.pv) (i : Int) = some b.toP.pv := by rw [at_nat, List.getElem?_map, hb]; rfl
    have hlen := hmid.len a ha
    have g := G.go (i - 1) a b (by omega) ha hb'
    have e := st (i - 1) a b us (by omega) ha hb' hlen
    simp [-Bool.exists_bool, Pgs, ix1, ix2, e]
    exact w1 _ _ ⟨rfl, i + 1, stepV (K b) us, _, rfl, rfl, by omega, by omega, hmid.next (by omega) hb (by rw [hlen]; exact g.1) g.2⟩
  · obtain ⟨rfl, m, us, s6, rfl, er, hvm, hmc, hmid⟩ := q
    have : c.length - m = 0 := by
      have := congrArg List.length er
      simpa using this.symm
    have hm' : m = c.length := by omega
    subst hm'
    have hcam := hmid.cam
    rw [List.drop_length, camK_nil] at hcam
    simp [-Bool.exists_bool, Pgs, L4, hcam]
theorem brg_case (F : BroF fns o) (n : Nat) (S : Sto) {c : List Md} (hc : Chain c) (hl : c.length ≤ 100) {v : Nat} (h1 : 1 ≤ v) (hv : v ≤ c.length) {x : Sg} {a0 : Md} (ha0 : c[v - 1]? = some a0) (hx : x ∈ sortN a0) {vs : List PV} (hlen : vs.length = (cb a0 x).length) (hval : ∀ u ∈ vs, isVal u) (num : Int) :
    callN fns cs w (n + 5) o.brg [Pgs c, .tup [.int num, .str x, .int (v : Int), .tup vs]] S = .ok (.tup [.int num, .str x, .int (c.length : Int), .tup (camK (fun m => cb m x) (c.drop v) vs)]) S := by
  refine brg_eq F (n + 4) S hl h1 hv (.start (fun a ha => by rw [ha0] at ha; cases ha; exact hlen) hval) (.str x) num (goes_case hc h1 ha0 hx) fun i a b us hi ha hb hu => ?_
  have hxa : x ∈ sortN a := names_on hc (i - (v - 1)) (v - 1) a0 a ha0 hx (by rw [show v - 1 + (i - (v - 1)) = i by omega]; exact ha)
  exact von_case F n S (hc.g a (List.mem_of_getElem? ha)) (hc.g b (List.mem_of_getElem? hb)) (hc.nx ha hb) hxa hu
theorem goes_root {c : List Md} (hc : Chain c) {v : Nat} (hn : ∀ (i : Nat) (b : Md), v ≤ i → c[i]? = some b → ∀ f ∈ b.rs, f.sr ≠ none) : Goes c Md.rs v where
  go := fun i a b hi ha hb => ⟨(hc.nx ha hb).rs.sr, fun f hf h => absurd h (hn (i + 1) b hi hb f hf)⟩
theorem brg_root (F : BroF fns o) (n : Nat) (S : Sto) {c : List Md} (hc : Chain c) (hl : c.length ≤ 100) {v : Nat} (h1 : 1 ≤ v) (hv : v ≤ c.length) {a0 : Md} (ha0 : c[v - 1]? = some a0) (hn : ∀ (i : Nat) (b : Md), v ≤ i → c[i]? = some b → ∀ f ∈ b.rs, f.sr ≠ none) {vs : List PV} (hlen : vs.length = a0.rs.length) (hval : ∀ u ∈ vs, isVal u) (num : Int) :
    callN fns cs w (n + 5) o.brg [Pgs c, .tup [.int num, .non, .int (v : Int), .tup vs]] S = .ok (.tup [.int num, .non, .int (c.length : Int), .tup (camK Md.rs (c.drop v) vs)]) S := by
  refine brg_eq F (n + 4) S hl h1 hv (.start (fun a ha => by rw [ha0] at ha; cases ha; exact hlen) hval) .non num (goes_root hc hn) fun i a b us hi ha hb hu => ?_
  exact von_root F n S (hc.g a (List.mem_of_getElem? ha)) (hc.g b (List.mem_of_getElem? hb)) (hc.nx ha hb) hu (hn (i + 1) b hi hb)
/-- all of them walked -/
theorem mid_all {c : List Md} {K : Md → List Fr} {v : Nat} {vs : List PV} (G : Goes c K v) (h1 : 1 ≤ v) : ∀ (k m : Nat) (us : List PV), m + k = c.length → v ≤ m → Mid c K v vs m us → Mid c K v vs c.length (camK K (c.drop m) us)
  | 0, m, us, hk, hvm, h => by
    have : m = c.length := by omega
    subst this
    rw [List.drop_length, camK_nil]
    exact h
  | k + 1, m, us, hk, hvm, h => by
    obtain ⟨a, ha⟩ : ∃ a, c[m - 1]? = some a := ⟨_, List.getElem?_eq_getElem (by omega)⟩
    obtain ⟨b, hb⟩ : ∃ b, c[m]? = some b := ⟨_, List.getElem?_eq_getElem (by omega)⟩
    have g := G.go (m - 1) a b (by omega) ha (by rw [show m - 1 + 1 = m by omega]; exact hb)
    rw [drop_get hb, camK_cons]
    exact mid_all G h1 k (m + 1) _ (by omega) (by omega) (h.next (by omega) hb (by rw [h.len a ha]; exact g.1) g.2)
theorem cam_val {c : List Md} {K : Md → List Fr} {v : Nat} {vs : List PV} (G : Goes c K v) (h1 : 1 ≤ v) (hv : v ≤ c.length) (h : Mid c K v vs v vs) : (∀ u ∈ camK K (c.drop v) vs, isVal u) ∧ ∀ a, c[c.length - 1]? = some a → (camK K (c.drop v) vs).length = (K a).length := by
  have := mid_all G h1 (c.length - v) v vs (by omega) (Nat.le_refl _) h
  exact ⟨this.val, this.len⟩
/-- .. as a text -/
theorem shRow {num : Int} (h1 : -10000 < num) (h2 : num < 10000) {cv : PV} (hcv : ∀ n, Sh n 60 cv) {k : Nat} (hk : k < 1000) {us : List PV} (hu : ∀ u ∈ us, isVal u) (hl : us.length ≤ 10) : ∃ x, bltPV .repr [.tup [.int num, cv, .int (k : Int), .tup us]] = some (.str x) := by
  refine ⟨_, repr_rp (n := 20) (b := 100000) ?_ (by decide) (by decide)⟩
  have : Sh 19 2000 (.tup us) := (Sh.tupN (n := 18) (b := 127) (m := 10) (fun u h => (hu u h).sh 17) hl).mono (by decide)
  refine (Sh.tupN (n := 19) (b := 2000) (m := 4) (fun p hp => ?_) (by simp)).mono (by decide)
  simp only [List.mem_cons, List.not_mem_nil, or_false] at hp
  rcases hp with rfl | rfl | rfl | rfl
  · exact (sh_i10 19 (by omega)).mono (by decide)
  · exact (hcv 19).mono (by decide)
  · exact (sh_i10 19 (by omega)).mono (by decide)
  · exact this
theorem items_casD {m : Md} {e : E} : itemsX (.e e) (casD m) = some ((caseL m).map fun c => .str c.nm) := by
  show some (((caseL m).map fun c => Ky.s c.nm).map kyP) = _
  rw [List.map_map]
  rfl
theorem Fr.G.flat {f : Fr} (g : f.G) (n : Nat) : Mn.flat (n + 4) f.pv = true := by
  have h1 := flat_str (ok_names _ g.nm) (n + 3)
  have h2 : Mn.flat (n + 3) (tdP f.td) = true := by
    cases h : f.td with
    | none => rfl
    | some t => exact flat_str (ok_names _ (g.td t h)) _
  have h3 := TyK.flat g.ty (n + 1)
  have h4 := g.ctf (n + 3)
  have h5 : Mn.flat (n + 3) (optP f.sr) = true := by cases f.sr <;> rfl
  show (Mn.flat (n + 3) _ && (Mn.flat (n + 3) _ && (Mn.flat (n + 3) _ && (Mn.flat (n + 3) _ && (Mn.flat (n + 3) _ && true))))) = true
  rw [h1, h2, h3, h4, h5]
  rfl
theorem eq_nilF {fs : List Fr} (hg : ∀ f ∈ fs, f.G) : cmpPV .eq (.lst (fs.map Fr.pv)) (.lst []) = some (decide (fs = [])) := by
  have h : flat 60 (.lst (fs.map Fr.pv)) = true := flats_of (n := 59) fun x hx => by obtain ⟨f, hf, rfl⟩ := List.mem_map.mp hx; exact (hg f hf).flat 55
  rw [eq_flat h rfl]
  cases fs <;> rfl
end
end Mn
end

section
set_option linter.all false
set_option autoImplicit false
set_option maxRecDepth 100000
/-! MnHook: the head's look at constants of any kind: ints, texts, tuples of them. -/
namespace Mn
open PySem PySem.Spec PyProof.Rows L2
mutual
/-- the module's value u is the constant p -/
def pvB (K : Frag) : PV → Value → Bool
  | .non, .none => true
  | .bl b, .bool c => b == c
  | .int i, .int j _ => decide (j = i)
  | .str x, .str y _ => eqL x y.cps.toList
  | .tup xs, .ref a => (match K.lookup a with
    | some ⟨.type c, _, .seq its _, _⟩ => decide (c = "tuple") && (decide (its.size ≤ sizeLine) && pvBs K xs its.toList)
    | _ => false)
  | _, _ => false
def pvBs (K : Frag) : List PV → List Value → Bool
  | [], [] => true
  | p :: ps, u :: us => pvB K p u && pvBs K ps us
  | _, _ => false
end
mutual
theorem pvB_ok {K : Frag} : ∀ {p : PV} {u : Value}, pvB K p u = true → ∃ v, RelV v u ∧ ∀ g, Rp K g v p
  | .non, u, h => by
    cases u <;> simp only [pvB, Bool.false_eq_true] at h
    exact ⟨.non, rfl, fun g => .non⟩
  | .bl b, u, h => by
    cases u <;> simp only [pvB, Bool.false_eq_true] at h
    rw [beq_iff_eq] at h
    subst h
    exact ⟨.bl b, rfl, fun g => .bl b⟩
  | .int i, u, h => by
    cases u <;> simp only [pvB, Bool.false_eq_true] at h
    have e := of_decide_eq_true h
    subst e
    exact ⟨.int _, ⟨_, rfl⟩, fun g => .int _⟩
  | .str x, u, h => by
    cases u <;> simp only [pvB, Bool.false_eq_true] at h
    rename_i y t
    have e : toS x = y := by
      obtain ⟨⟨y⟩⟩ := y
      have : x = y := eqL_ok h
      rw [this]
    subst e
    exact ⟨.str _, ⟨_, rfl⟩, fun g => .str _⟩
  | .tup xs, u, h => by
    cases u <;> simp only [pvB, Bool.false_eq_true] at h
    rename_i a
    cases q : K.lookup a with
    | none =>
      rw [q] at h
      cases h
    | some o =>
      obtain ⟨oc, od, dt, osl⟩ := o
      rw [q] at h
      cases oc with
      | type c =>
        cases dt with
        | seq its n =>
          obtain ⟨h1, h2⟩ := He.ba h
          obtain ⟨h3, h4⟩ := He.ba h2
          obtain ⟨vs, r1, r2⟩ := pvBs_ok h4
          refine ⟨.ref a, rfl, fun g => .tup (.inr ⟨_, its, n, q, congrArg Value.type (of_decide_eq_true h1), rfl, of_decide_eq_true h3, r1⟩) (r2 g)⟩
        | _ => cases h
      | _ => cases dt <;> cases h
  | .lst _, u, h => by cases u <;> simp [pvB] at h
  | .ref _, u, h => by cases u <;> simp [pvB] at h
  | .fn _, u, h => by cases u <;> simp [pvB] at h
  | .dct _ _, u, h => by cases u <;> simp [pvB] at h
theorem pvBs_ok {K : Frag} : ∀ {ps : List PV} {us : List Value}, pvBs K ps us = true → ∃ vs, Vals vs us ∧ ∀ g, Rps K g vs ps
  | [], [], _ => ⟨[], .nil, fun g => .nil⟩
  | [], _ :: _, h => by simp [pvBs] at h
  | _ :: _, [], h => by simp [pvBs] at h
  | p :: ps, u :: us, h => by
    simp only [pvBs, Bool.and_eq_true] at h
    obtain ⟨v, h1, h2⟩ := pvB_ok h.1
    obtain ⟨vs, h3, h4⟩ := pvBs_ok h.2
    exact ⟨v :: vs, .cons h1 h3, fun g => .cons (h2 g) (h4 g)⟩
end
def cnB (K : Frag) : List Str → List PV → Bool
  | x :: cn, p :: cs => (match PySem.W.nsIn K mainGlobals x with
    | some (some u) => pvB K p u
    | _ => false) && cnB K cn cs
  | [], [] => true
  | _, _ => false
theorem cnB_ok {K : Frag} {h : Heap} {mg : Str → Option Value} (KX : K.In h) (G : h.Ns mainGlobals mg) : ∀ {cn : List Str} {cs : List PV}, cnB K cn cs = true → CnOk K mg cn cs
  | [], [], _ => fun i x p hx hp => by cases i <;> cases hx
  | [], _ :: _, h => by simp [cnB] at h
  | _ :: _, [], h => by simp [cnB] at h
  | y :: cn, q :: cs, h => fun i x p hx hp => by
    simp only [cnB] at h
    obtain ⟨h1, h2⟩ := He.ba h
    cases i with
    | zero =>
      cases hx
      cases hp
      cases e : PySem.W.nsIn K mainGlobals y with
      | none =>
        rw [e] at h1
        cases h1
      | some o =>
        rw [e] at h1
        cases o with
        | none => cases h1
        | some u =>
          obtain ⟨v, r1, r2⟩ := pvB_ok (show pvB K q u = true from h1)
          exact ⟨u, v, PySem.W.mg_of KX G e, r1, r2⟩
    | succ i => exact cnB_ok KX G h2 i x p (by simpa using hx) (by simpa using hp)
/-- .. by one more Bool -/
abbrev AlE : Type := He.AlD × Bool
def obsE (n : Nat) (fa : List He.Fa) (fn : List He.DefD) (ex : Frag → Bool) (g : Addr → Option Obj) : AlE := (He.obsD fa fn (He.frG g (He.asD g n)), ex (He.frG g (He.asD g n)))
def hookE (n : Nat) (fa : List He.Fa) (fn : List He.DefD) (ex : Frag → Bool) : PySem.W.Hook where
  α := AlE
  obs := fun s => obsE n fa fn ex s.heap.get?
  val := fun _ => (He.valD fn, true)
  says := fun _ h => ∃ K : Frag, K.In h ∧ He.SaysD fa fn K ∧ ex K = true
  of := fun _ _ e => ⟨_, He.frG_in, congrArg (fun z : AlE => z.1) e, congrArg (fun z : AlE => z.2) e⟩
  keeps := fun _ _ _ ⟨K, hK, c⟩ k => ⟨K, PySem.W.Frag.In.keeps hK k, c⟩
theorem obsE_eq {n : Nat} {fa : List He.Fa} {fn : List He.DefD} {ex : Frag → Bool} {g : Addr → Option Obj} {s : Shared} (h : ∀ a, g a = s.heap.get? a) : obsE n fa fn ex g = (hookE n fa fn ex).obs s := by
  have e : g = s.heap.get? := funext h
  rw [e] <;> rfl
end Mn
end

section
set_option autoImplicit false
namespace Ak56
open Mn
/-- named('rows', 'name', 'row') -/
def f_named : Fn := ⟨2, 3, [
  (.for (.nm 2) (.sq (.e (.v 0))) [(.ite (.cmp .eq (.e (.ix (.e (.v 2)) (.int 0))) (.e (.v 1))) [(.ret (.v 2))] [])]),
  (.ret .non)]⟩
/-- fields_in('program', 'kind', 'case', 'found', 'held') -/
def f_fields_in : Fn := ⟨3, 5, [
  (.set (.nm 3) (.call 0 [(.ix (.e (.v 0)) (.int 0)), (.v 1)])),
  (.set (.nm 4) (.ife (.cmp .is (.e (.v 3)) (.e .non)) .non (.call 0 [(.ix (.e (.v 3)) (.int 2)), (.v 2)]))),
  (.ret (.ife (.cmp .is (.e (.v 4)) (.e .non)) .non (.ix (.e (.v 4)) (.int 1))))]⟩
/-- source_in('elders', 'row', 'names', 'name', 'elder') -/
def f_source_in : Fn := ⟨2, 5, [
  (.set (.nm 2) (.fr (.lc [4] (.nm 4) (.sq (.e (.v 0))) [] (.ix (.e (.v 4)) (.int 0))))),
  (.set (.nm 3) (.ife (.cmp .is (.e (.ix (.e (.v 1)) (.int 1))) (.e .non)) (.ix (.e (.v 1)) (.int 0)) (.ix (.e (.v 1)) (.int 1)))),
  (.ret (.ife (.cmp .isin (.e (.v 3)) (.e (.v 2))) (.met .index (.e (.v 2)) [(.e (.v 3))]) .non))]⟩
/-- sources_between('elders', 'fields', 'found', 'field', 'source') -/
def f_sources_between : Fn := ⟨2, 5, [
  (.setO 2 (.lst [])),
  (.for (.nm 3) (.sq (.e (.v 1))) [(.set (.nm 4) (.call 2 [(.v 0), (.v 3)])), (.app 2 (.ife (.cmp .is (.e (.v 4)) (.e .non)) (.tup [(.str [99, 111, 110, 115, 116, 97, 110, 116]), (.ix (.e (.v 3)) (.int 3))]) (.tup [(.str [102, 114, 111, 109]), (.v 4)])))]),
  (.ret (.blt .tuple [(.own 2)]))]⟩
/-- way_between('elder', 'program', 'found', 'kind', 'case') -/
def f_way_between : Fn := ⟨2, 5, [
  (.setO 2 (.lst [])),
  (.for (.nm 3) (.sq (.e (.ix (.e (.v 0)) (.int 0)))) [(.for (.nm 4) (.sq (.e (.ix (.e (.v 3)) (.int 2)))) [(.app 2 (.tup [(.ix (.e (.v 4)) (.int 0)), (.call 3 [(.ix (.e (.v 4)) (.int 1)), (.call 1 [(.v 1), (.ix (.e (.v 3)) (.int 0)), (.ix (.e (.v 4)) (.int 0))])])]))])]),
  (.ret (.blt .tuple [(.e (.fr (.srt (.own 2))))]))]⟩
/-- still_way('program', 'found', 'kind', 'case', 'index') -/
def f_still_way : Fn := ⟨1, 5, [
  (.set (.nm 1) (.fr (.lst []))),
  (.for (.nm 2) (.sq (.e (.ix (.e (.v 0)) (.int 0)))) [(.set (.nm 1) (.fr (.cat (.e (.v 1)) (.e (.fr (.lc [3] (.nm 3) (.sq (.e (.ix (.e (.v 2)) (.int 2)))) [] (.tup [(.ix (.e (.v 3)) (.int 0)), (.blt .tuple [(.e (.fr (.lc [4] (.nm 4) (.rng (.blt .len [(.e (.ix (.e (.v 3)) (.int 1)))])) [] (.tup [(.str [102, 114, 111, 109]), (.v 4)]))))])])))))))]),
  (.ret (.blt .tuple [(.e (.fr (.srt (.e (.v 1)))))]))]⟩
/-- way_after('one', 'other', 'later', 'found', 'case', 'sources', 'source') -/
def f_way_after : Fn := ⟨2, 7, [
  (.set (.nm 2) (.dictp (.e (.fr (.list (.e (.v 1))))))),
  (.setO 3 (.lst [])),
  (.for (.tp [(.nm 4), (.nm 5)]) (.sq (.e (.v 0))) [(.app 3 (.tup [(.v 4), (.blt .tuple [(.e (.fr (.lc [6] (.nm 6) (.sq (.e (.ix (.e (.v 2)) (.v 4)))) [] (.ife (.cmp .eq (.e (.ix (.e (.v 6)) (.int 0))) (.e (.str [102, 114, 111, 109]))) (.ix (.e (.v 5)) (.ix (.e (.v 6)) (.int 1))) (.v 6)))))])]))]),
  (.ret (.blt .tuple [(.own 3)]))]⟩
/-- by_way('way', 'case', 'values', 'sources', 'source') -/
def f_by_way : Fn := ⟨3, 5, [
  (.set (.nm 3) (.ix (.e (.dictp (.e (.fr (.list (.e (.v 0))))))) (.v 1))),
  (.ret (.blt .tuple [(.e (.fr (.lc [4] (.nm 4) (.sq (.e (.v 3))) [] (.ife (.cmp .eq (.e (.ix (.e (.v 4)) (.int 0))) (.e (.str [102, 114, 111, 109]))) (.ix (.e (.v 2)) (.ix (.e (.v 4)) (.int 1))) (.ix (.e (.v 4)) (.int 1))))))]))]⟩
/-- root_way('elder', 'program', 'root') -/
def f_root_way : Fn := ⟨2, 3, [
  (.ret (.blt .tuple [(.e (.fr (.lc [2] (.nm 2) (.sq (.e (.ix (.e (.v 1)) (.int 1)))) [] (.call 2 [(.ix (.e (.v 0)) (.int 1)), (.v 2)]))))]))]⟩
/-- values_on('elder', 'program', 'case', 'values', 'index') -/
def f_values_on : Fn := ⟨4, 5, [
  (.ite (.cmp .is (.e (.v 2)) (.e .non)) [(.ret (.blt .tuple [(.e (.fr (.lc [4] (.nm 4) (.sq (.e (.call 8 [(.v 0), (.v 1)]))) [] (.ix (.e (.v 3)) (.v 4)))))]))] []),
  (.ret (.call 7 [(.call 4 [(.v 0), (.v 1)]), (.v 2), (.v 3)]))]⟩
/-- brought('programs', 'row', 'number', 'case', 'version', 'values', 'later') -/
def f_brought : Fn := ⟨2, 7, [
  (.set (.tp [(.nm 2), (.nm 3), (.nm 4), (.nm 5)]) (.v 1)),
  (.for (.nm 6) (.rng2 (.v 4) (.blt .len [(.e (.v 0))])) [(.set (.nm 5) (.call 9 [(.ix (.e (.v 0)) (.bin .sub (.e (.v 6)) (.e (.int 1)))), (.ix (.e (.v 0)) (.v 6)), (.v 3), (.v 5)]))]),
  (.ret (.tup [(.v 2), (.v 3), (.blt .len [(.e (.v 0))]), (.v 5)]))]⟩
/-- _law_cup('script', 'cell') -/
def f__law_cup : Fn := ⟨1, 2, [
  (.set (.nm 1) (.blt .abs [(.e (.ix (.e (.fr (.cat (.e (.fr (.list (.e (.v 0))))) (.e (.fr (.lst [(.int 0)])))))) (.int 0)))])),
  (.ret (.new (.lst [(.ife (.cmp .ge (.e (.v 1)) (.e (.bin .pow (.e (.int 10)) (.e (.int 18))))) (.bin .fdiv (.e (.v 1)) (.e (.int 67))) (.int 0)), (.bin .add (.e (.bin .mod (.e (.blt .int [(.e (.bin .add (.e (.bin .mul (.e (.v 1)) (.e (.int 277)))) (.e (.int 2609))))])) (.e (.int 2077503167)))) (.e (.int 163)))])))]⟩
/-- _law_roll('cup', 'many', 'found', 'deep') -/
def f__law_roll : Fn := ⟨2, 4, [
  (.ite (.cmp .gt (.e (.ix (.e (.v 0)) (.int 0))) (.e (.int 0))) [(.set (.nm 2) (.bin .mod (.e (.blt .int [(.e (.ix (.e (.v 0)) (.int 0)))])) (.e (.v 1)))), (.setx (.v 0) (.int 0) (.bin .fdiv (.e (.ix (.e (.v 0)) (.int 0))) (.e (.v 1)))), (.ret (.v 2))] []),
  (.setx (.v 0) (.int 1) (.bin .mod (.e (.blt .int [(.e (.bin .add (.e (.bin .mul (.e (.ix (.e (.v 0)) (.int 1))) (.e (.int 31051)))) (.e (.int 7993))))])) (.e (.int 2147483543)))),
  (.set (.nm 3) (.bin .mod (.e (.blt .int [(.e (.bin .mul (.e (.ix (.e (.v 0)) (.int 1))) (.e (.bin .add (.e (.ix (.e (.v 0)) (.int 1))) (.e (.int 229))))))])) (.e (.int 2147483587)))),
  (.ret (.bin .mod (.e (.blt .int [(.e (.bin .fdiv (.e (.v 3)) (.e (.int 821))))])) (.e (.v 1))))]⟩
/-- _law_some('cup', 'things') -/
def f__law_some : Fn := ⟨2, 2, [
  (.ret (.ix (.e (.v 1)) (.call 12 [(.v 0), (.blt .len [(.e (.v 1))])])))]⟩
/-- _law_type('cup', 'has', 'names', 'way', 'name', 'other') -/
def f__law_type : Fn := ⟨3, 6, [
  (.set (.nm 3) (.call 12 [(.v 0), (.int 5)])),
  (.ite (.or (.cmp .lt (.e (.v 3)) (.e (.int 3))) (.cmp .eq (.e (.v 2)) (.e (.fr (.lst []))))) [(.ret (.ife (.cmp .lt (.e (.v 3)) (.e (.int 2))) (.tup [(.str [105, 110, 116])]) (.tup [(.str [116, 101, 120, 116])])))] []),
  (.ite (.and (.cmp .eq (.e (.v 3)) (.e (.int 3))) (.tr (.e (.v 1)))) [(.ret (.tup [(.str [111, 119, 110])]))] []),
  (.set (.tp [(.nm 4), (.nm 5)]) (.call 13 [(.v 0), (.v 2)])),
  (.ret (.tup [(.str [111, 102]), (.v 4), (.ife (.tr (.e (.v 5))) (.tup [(.str [105, 110, 116])]) .non)]))]⟩
/-- _law_constant('cup', 'kind') -/
def f__law_constant : Fn := ⟨2, 2, [
  (.ret (.ife (.cmp .eq (.e (.v 1)) (.e (.tup [(.str [105, 110, 116])]))) (.bin .sub (.e (.call 12 [(.v 0), (.int 9)])) (.e (.int 3))) (.call 13 [(.v 0), (.fr (.lst [(.str []), (.str [97]), (.str [110, 111]), (.str [49, 50, 51, 52, 53, 54, 55, 56])]))])))]⟩
/-- _law_free('cup', 'taken', 'name') -/
def f__law_free : Fn := ⟨2, 3, [
  (.ret (.call 13 [(.v 0), (.fr (.lc [2] (.nm 2) (.sq (.e (.fr (.lst [(.str [97]), (.str [98]), (.str [99]), (.str [100]), (.str [101, 50]), (.str [102, 111, 120]), (.str [103]), (.str [104]), (.str [107]), (.str [109]), (.str [110]), (.str [112]), (.str [113])])))) [(.cmp .notin (.e (.v 2)) (.e (.v 1)))] (.v 2)))]))]⟩
/-- _law_field('cup', 'taken', 'kinds', 'has', 'is_old', 'kind', 'constant') -/
def f__law_field : Fn := ⟨5, 7, [
  (.set (.nm 5) (.call 14 [(.v 0), (.v 3), (.ife (.tr (.e (.v 4))) (.fr (.lst [])) (.v 2))])),
  (.set (.nm 6) (.ife (.and (.cmp .isin (.e (.v 5)) (.e (.tup [(.tup [(.str [105, 110, 116])]), (.tup [(.str [116, 101, 120, 116])])]))) (.or (.tr (.e (.v 4))) (.cmp .eq (.e (.call 12 [(.v 0), (.int 2)])) (.e (.int 0))))) (.call 15 [(.v 0), (.v 5)]) .non)),
  (.ret (.fr (.lst [(.call 16 [(.v 0), (.v 1)]), .non, (.v 5), (.v 6), .non])))]⟩
/-- _law_case('cup', 'name', 'kinds', 'has', 'fields', 'turn', 'field') -/
def f__law_case : Fn := ⟨4, 7, [
  (.setO 4 (.lst [])),
  (.for (.nm 5) (.rng (.call 12 [(.v 0), (.int 4)])) [(.app 4 (.call 17 [(.v 0), (.fr (.lc [6] (.nm 6) (.sq (.own 4)) [] (.ix (.e (.v 6)) (.int 0)))), (.v 2), (.v 3), (.bl false)]))]),
  (.frz 4),
  (.ret (.fr (.lst [(.v 1), (.v 4)])))]⟩
/-- _law_first('cup', 'many', 'kinds', 'types', 'name', 'has', 'cases', 'index', 'roots', 'turn', 'root') -/
def f__law_first : Fn := ⟨1, 11, [
  (.set (.nm 1) (.bin .add (.e (.int 1)) (.e (.call 12 [(.v 0), (.int 3)])))),
  (.set (.nm 2) (.fr (.slc (.e (.fr (.lst [(.fr (.lst [(.str [66, 111, 120]), (.cmp .eq (.e (.call 12 [(.v 0), (.int 2)])) (.e (.int 0)))])), (.fr (.lst [(.str [76, 105, 115, 116]), (.cmp .eq (.e (.call 12 [(.v 0), (.int 2)])) (.e (.int 0)))])), (.fr (.lst [(.str [80, 97, 105, 114]), (.bl false)]))]))) .no (.e (.v 1))))),
  (.setO 3 (.lst [])),
  (.for (.tp [(.nm 4), (.nm 5)]) (.sq (.e (.v 2))) [(.setO 6 (.lst [(.fr (.lst [(.bin .add (.e (.str [78, 111])) (.e (.v 4))), (.fr (.lst []))]))])), (.for (.nm 7) (.rng (.call 12 [(.v 0), (.int 3)])) [(.app 6 (.call 18 [(.v 0), (.ix (.e (.str [65, 66, 67, 68, 69, 70, 71, 72])) (.bin .add (.e (.bin .mul (.e (.int 3)) (.e (.blt .len [(.own 3)])))) (.e (.v 7)))), (.v 2), (.v 5)]))]), (.frz 6), (.app 3 (.fr (.lst [(.v 4), (.v 5), (.v 6)])))]),
  (.setO 8 (.lst [])),
  (.for (.nm 9) (.rng (.call 12 [(.v 0), (.int 4)])) [(.app 8 (.fr (.lst [(.call 16 [(.v 0), (.fr (.lc [10] (.nm 10) (.sq (.own 8)) [] (.ix (.e (.v 10)) (.int 0))))]), .non, (.call 14 [(.v 0), (.bl false), (.v 2)]), .non, .non])))]),
  (.frz 3),
  (.frz 8),
  (.ret (.fr (.lst [(.v 3), (.v 8)])))]⟩
/-- _law_exp('kind',) -/
def f__law_exp : Fn := ⟨1, 1, [
  (.ite (.cmp .eq (.e (.v 0)) (.e (.tup [(.str [105, 110, 116])]))) [(.ret (.tup [(.str [105, 110, 116]), (.int 4)]))] []),
  (.ret (.ife (.cmp .eq (.e (.v 0)) (.e (.tup [(.str [116, 101, 120, 116])]))) (.tup [(.str [116, 101, 120, 116]), (.str [120])]) (.tup [(.str [109, 97, 107, 101]), (.bin .add (.e (.str [78, 111])) (.e (.ix (.e (.v 0)) (.int 1)))), (.tup [])])))]⟩
/-- _law_program('made', 'types', 'name', 'has', 'cases', 'rows', 'case', 'root', 'field') -/
def f__law_program : Fn := ⟨1, 9, [
  (.setO 1 (.lst [])),
  (.for (.tp [(.nm 2), (.nm 3), (.nm 4)]) (.sq (.e (.ix (.e (.v 0)) (.int 0)))) [(.set (.nm 5) (.fr (.lc [6] (.nm 6) (.sq (.e (.v 4))) [] (.tup [(.ix (.e (.v 6)) (.int 0)), (.blt .tuple [(.e (.fr (.lc [8] (.nm 8) (.sq (.e (.ix (.e (.v 6)) (.int 1)))) [] (.blt .tuple [(.e (.fr (.slc (.e (.v 8)) .no (.e (.int 4)))))]))))])])))), (.app 1 (.tup [(.v 2), (.v 3), (.blt .tuple [(.e (.v 5))])]))]),
  (.ret (.tup [(.blt .tuple [(.own 1)]), (.blt .tuple [(.e (.fr (.lc [7] (.nm 7) (.sq (.e (.ix (.e (.v 0)) (.int 1)))) [] (.tup [(.ix (.e (.v 7)) (.int 0)), (.ix (.e (.v 7)) (.int 1)), (.ix (.e (.v 7)) (.int 2)), (.call 20 [(.ix (.e (.v 7)) (.int 2))])]))))]), (.tup [])]))]⟩
/-- _law_mixed('cup', 'rows', 'found', 'at') -/
def f__law_mixed : Fn := ⟨2, 4, [
  (.set (.nm 2) (.fr (.list (.e (.v 1))))),
  (.ite (.and (.cmp .gt (.e (.blt .len [(.e (.v 2))])) (.e (.int 1))) (.cmp .eq (.e (.call 12 [(.v 0), (.int 2)])) (.e (.int 0)))) [(.set (.nm 3) (.call 12 [(.v 0), (.blt .len [(.e (.v 2))])])), (.set (.nm 2) (.fr (.cat (.e (.fr (.slc (.e (.v 2)) (.e (.v 3)) .no))) (.e (.fr (.slc (.e (.v 2)) .no (.e (.v 3))))))))] []),
  (.ret (.ife (.cmp .eq (.e (.call 12 [(.v 0), (.int 4)])) (.e (.int 0))) (.fr (.slr (.e (.v 2)))) (.v 2)))]⟩
/-- _law_kept('cup', 'rows', 'most', 'found', 'names', 'index', 'name', 'taken', 'way', 'constant', 'row') -/
def f__law_kept : Fn := ⟨3, 11, [
  (.par 3 (.f (.lst [])) 4 (.e (.fr (.lc [10] (.nm 10) (.sq (.e (.v 1))) [] (.ix (.e (.v 10)) (.int 0)))))),
  (.for (.nm 5) (.rng (.blt .len [(.e (.v 1))])) [(.par 6 (.e (.ix (.e (.ix (.e (.v 1)) (.v 5))) (.int 0))) 7 (.e (.fr (.cat (.e (.v 4)) (.e (.fr (.lc [10] (.nm 10) (.sq (.own 3)) [] (.ix (.e (.v 10)) (.int 0))))))))), (.par 8 (.e (.call 12 [(.v 0), (.int 6)])) 9 (.e (.ix (.e (.ix (.e (.v 1)) (.v 5))) (.int 3)))), (.ite (.and (.cmp .isnot (.e (.v 9)) (.e .non)) (.cmp .eq (.e (.call 12 [(.v 0), (.int 3)])) (.e (.int 0)))) [(.set (.nm 9) (.call 13 [(.v 0), (.fr (.lst [.non, (.call 15 [(.v 0), (.ix (.e (.ix (.e (.v 1)) (.v 5))) (.int 2))])]))]))] []), (.ite (.cmp .eq (.e (.v 8)) (.e (.int 0))) [.cont] []), (.ite (.and (.cmp .eq (.e (.v 8)) (.e (.int 1))) (.cmp .lt (.e (.blt .len [(.e (.v 1))])) (.e (.v 2)))) [(.app 3 (.fr (.lst [(.call 16 [(.v 0), (.v 7)]), (.v 6), (.ix (.e (.ix (.e (.v 1)) (.v 5))) (.int 2)), (.v 9), (.v 5)])))] [(.app 3 (.fr (.lst [(.v 6), .non, (.ix (.e (.ix (.e (.v 1)) (.v 5))) (.int 2)), (.v 9), (.v 5)])))])]),
  (.retO 3)]⟩
/-- _law_next('cup', 'made', 'kinds', 'types', 'name', 'has', 'cases', 'rows', 'case', 'fields', 'taken', 'names', 'letter', 'roots', 'kind', 'root', 'field') -/
def f__law_next : Fn := ⟨2, 17, [
  (.set (.nm 2) (.fr (.lc [14] (.nm 14) (.sq (.e (.ix (.e (.v 1)) (.int 0)))) [] (.fr (.slc (.e (.v 14)) .no (.e (.int 2))))))),
  (.setO 3 (.lst [])),
  (.for (.tp [(.nm 4), (.nm 5), (.nm 6)]) (.sq (.e (.ix (.e (.v 1)) (.int 0)))) [(.setO 7 (.lst [])), (.for (.nm 8) (.sq (.e (.v 6))) [(.setO 9 (.callO 23 [(.v 0), (.ix (.e (.v 8)) (.int 1)), (.int 4)])), (.set (.nm 10) (.fr (.cat (.e (.fr (.lc [16] (.nm 16) (.sq (.e (.ix (.e (.v 8)) (.int 1)))) [] (.ix (.e (.v 16)) (.int 0))))) (.e (.fr (.lc [16] (.nm 16) (.sq (.own 9)) [] (.ix (.e (.v 16)) (.int 0)))))))), (.ite (.and (.cmp .lt (.e (.blt .len [(.own 9)])) (.e (.int 4))) (.cmp .eq (.e (.call 12 [(.v 0), (.int 2)])) (.e (.int 0)))) [(.app 9 (.call 17 [(.v 0), (.v 10), (.v 2), (.v 5), (.bl true)]))] []), (.frz 9), (.app 7 (.fr (.lst [(.ix (.e (.v 8)) (.int 0)), (.call 22 [(.v 0), (.v 9)])])))]), (.ite (.and (.cmp .lt (.e (.blt .len [(.e (.v 6))])) (.e (.int 3))) (.cmp .eq (.e (.call 12 [(.v 0), (.int 4)])) (.e (.int 0)))) [(.set (.nm 11) (.fr (.lc [8] (.nm 8) (.sq (.e (.v 6))) [] (.ix (.e (.v 8)) (.int 0))))), (.for (.nm 12) (.sq (.e (.fr (.lst [(.bin .add (.e (.str [65])) (.e (.v 4))), (.bin .add (.e (.str [66])) (.e (.v 4))), (.bin .add (.e (.str [67])) (.e (.v 4)))])))) [(.ite (.and (.cmp .notin (.e (.v 12)) (.e (.v 11))) (.cmp .eq (.e (.blt .len [(.own 7)])) (.e (.blt .len [(.e (.v 6))])))) [(.app 7 (.call 18 [(.v 0), (.v 12), (.v 2), (.v 5)]))] [])])] []), (.frz 7), (.app 3 (.fr (.lst [(.v 4), (.v 5), (.call 22 [(.v 0), (.v 7)])])))]),
  (.ite (.and (.cmp .lt (.e (.blt .len [(.own 3)])) (.e (.int 4))) (.cmp .eq (.e (.call 12 [(.v 0), (.int 4)])) (.e (.int 0)))) [(.app 3 (.fr (.lst [(.bin .add (.e (.str [78, 101, 119])) (.e (.blt .str [(.e (.blt .len [(.own 3)]))]))), (.bl false), (.fr (.lst [(.fr (.lst [(.bin .add (.e (.str [78, 111, 78, 101, 119])) (.e (.blt .str [(.e (.blt .len [(.own 3)]))]))), (.fr (.lst []))]))]))])))] []),
  (.setO 13 (.callO 23 [(.v 0), (.ix (.e (.v 1)) (.int 1)), (.int 5)])),
  (.ite (.and (.cmp .lt (.e (.blt .len [(.own 13)])) (.e (.int 5))) (.cmp .eq (.e (.call 12 [(.v 0), (.int 3)])) (.e (.int 0)))) [(.set (.nm 10) (.fr (.cat (.e (.fr (.lc [15] (.nm 15) (.sq (.e (.ix (.e (.v 1)) (.int 1)))) [] (.ix (.e (.v 15)) (.int 0))))) (.e (.fr (.lc [15] (.nm 15) (.sq (.own 13)) [] (.ix (.e (.v 15)) (.int 0)))))))), (.app 13 (.fr (.lst [(.call 16 [(.v 0), (.v 10)]), .non, (.call 14 [(.v 0), (.bl false), (.v 2)]), .non, .non])))] []),
  (.frz 3),
  (.frz 13),
  (.ret (.fr (.lst [(.call 22 [(.v 0), (.v 3)]), (.call 22 [(.v 0), (.v 13)])])))]⟩
/-- _law_chain('cup', 'many', 'found', 'turn') -/
def f__law_chain : Fn := ⟨2, 4, [
  (.setO 2 (.lst [(.call 19 [(.v 0)])])),
  (.for (.nm 3) (.rng (.bin .sub (.e (.v 1)) (.e (.int 1)))) [(.app 2 (.call 24 [(.v 0), (.ix (.own 2) (.neg (.int 1)))]))]),
  (.retO 2)]⟩
/-- _law_cases('made', 'found', 'name', 'has', 'cases', 'case') -/
def f__law_cases : Fn := ⟨1, 6, [
  (.newD 1),
  (.for (.tp [(.nm 2), (.nm 3), (.nm 4)]) (.sq (.e (.ix (.e (.v 0)) (.int 0)))) [(.for (.nm 5) (.sq (.e (.v 4))) [(.putD 1 (.ix (.e (.v 5)) (.int 0)) (.ix (.e (.v 5)) (.int 1)))])]),
  (.retO 1)]⟩
/-- _law_row_of('cup', 'fields', 'found', 'field') -/
def f__law_row_of : Fn := ⟨2, 4, [
  (.setO 2 (.lst [])),
  (.for (.nm 3) (.sq (.e (.v 1))) [(.ite (.cmp .eq (.e (.ix (.e (.v 3)) (.int 2))) (.e (.tup [(.str [105, 110, 116])]))) [(.app 2 (.bin .sub (.e (.call 12 [(.v 0), (.int 100)])) (.e (.int 50))))] [(.app 2 (.ife (.cmp .eq (.e (.ix (.e (.v 3)) (.int 2))) (.e (.tup [(.str [116, 101, 120, 116])]))) (.call 13 [(.v 0), (.fr (.lst [(.str []), (.str [120]), (.str [121, 101, 115])]))]) (.tup [(.str [111, 98, 106, 101, 99, 116]), (.bin .add (.e (.int 1)) (.e (.call 12 [(.v 0), (.int 9)])))])))])]),
  (.ret (.blt .tuple [(.own 2)]))]⟩
/-- _law_stepped('fields', 'values', 'field') -/
def f__law_stepped : Fn := ⟨2, 3, [
  (.ret (.blt .tuple [(.e (.fr (.lc [2] (.nm 2) (.sq (.e (.v 0))) [] (.ife (.cmp .is (.e (.ix (.e (.v 2)) (.int 4))) (.e .non)) (.ix (.e (.v 2)) (.int 3)) (.ix (.e (.v 1)) (.ix (.e (.v 2)) (.int 4)))))))]))]⟩
/-- _law_traced('chain', 'found', 'name', 'sources', 'field', 'place', 'source') -/
def f__law_traced : Fn := ⟨1, 7, [
  (.setO 1 (.lst [])),
  (.for (.nm 2) (.sq (.e (.fr (.srt (.e (.call 26 [(.ix (.e (.v 0)) (.int 0))])))))) [(.setO 3 (.lst [])), (.for (.nm 4) (.sq (.e (.ix (.e (.call 26 [(.ix (.e (.v 0)) (.neg (.int 1)))])) (.v 2)))) [(.par 5 (.e (.bin .sub (.e (.blt .len [(.e (.v 0))])) (.e (.int 1)))) 6 (.e (.v 4))), (.whl (.and (.cmp .gt (.e (.v 5)) (.e (.int 1))) (.cmp .isnot (.e (.ix (.e (.v 6)) (.int 4))) (.e .non))) [(.par 5 (.e (.bin .sub (.e (.v 5)) (.e (.int 1)))) 6 (.e (.ix (.e (.ix (.e (.call 26 [(.ix (.e (.v 0)) (.bin .sub (.e (.v 5)) (.e (.int 1))))])) (.v 2))) (.ix (.e (.v 6)) (.int 4)))))]), (.app 3 (.ife (.cmp .is (.e (.ix (.e (.v 6)) (.int 4))) (.e .non)) (.tup [(.str [99, 111, 110, 115, 116, 97, 110, 116]), (.ix (.e (.v 6)) (.int 3))]) (.tup [(.str [102, 114, 111, 109]), (.ix (.e (.v 6)) (.int 4))])))]), (.app 1 (.tup [(.v 2), (.blt .tuple [(.own 3)])]))]),
  (.ret (.blt .tuple [(.own 1)]))]⟩
/-- _law_together_right('cup', 'chain', 'programs', 'ways', 'whole', 'cases', 'name', 'values', 'due', 'way', 'at') -/
def f__law_together_right : Fn := ⟨3, 11, [
  (.set (.nm 3) (.fr (.lc [10] (.nm 10) (.rng (.int 3)) [] (.call 4 [(.ix (.e (.v 2)) (.v 10)), (.ix (.e (.v 2)) (.bin .add (.e (.v 10)) (.e (.int 1))))])))),
  (.set (.nm 4) (.call 6 [(.call 6 [(.ix (.e (.v 3)) (.int 0)), (.ix (.e (.v 3)) (.int 1))]), (.ix (.e (.v 3)) (.int 2))])),
  (.ite (.or (.cmp .ne (.e (.blt .repr [(.e (.v 4))])) (.e (.blt .repr [(.e (.call 29 [(.v 1)]))]))) (.cmp .ne (.e (.blt .repr [(.e (.call 6 [(.ix (.e (.v 3)) (.int 0)), (.call 6 [(.ix (.e (.v 3)) (.int 1)), (.ix (.e (.v 3)) (.int 2))])]))])) (.e (.blt .repr [(.e (.v 4))])))) [(.ret (.bl false))] []),
  (.ite (.or (.cmp .ne (.e (.blt .repr [(.e (.call 6 [(.call 5 [(.ix (.e (.v 2)) (.int 0))]), (.ix (.e (.v 3)) (.int 0))]))])) (.e (.blt .repr [(.e (.ix (.e (.v 3)) (.int 0)))]))) (.cmp .ne (.e (.blt .repr [(.e (.call 6 [(.ix (.e (.v 3)) (.int 0)), (.call 5 [(.ix (.e (.v 2)) (.int 1))])]))])) (.e (.blt .repr [(.e (.ix (.e (.v 3)) (.int 0)))])))) [(.ret (.bl false))] []),
  (.set (.nm 5) (.call 26 [(.ix (.e (.v 1)) (.int 0))])),
  (.for (.nm 6) (.sq (.e (.v 5))) [(.set (.nm 7) (.call 27 [(.v 0), (.ix (.e (.v 5)) (.v 6))])), (.set (.nm 8) (.v 7)), (.for (.nm 9) (.sq (.e (.v 3))) [(.set (.nm 8) (.call 7 [(.v 9), (.v 6), (.v 8)]))]), (.ite (.or (.cmp .ne (.e (.blt .repr [(.e (.call 7 [(.v 4), (.v 6), (.v 7)]))])) (.e (.blt .repr [(.e (.v 8))]))) (.cmp .ne (.e (.blt .repr [(.e (.call 10 [(.v 2), (.tup [(.int 4), (.v 6), (.int 1), (.v 7)])]))])) (.e (.blt .repr [(.e (.tup [(.int 4), (.v 6), (.int 4), (.v 8)]))])))) [(.ret (.bl false))] [])]),
  (.ret (.bl true))]⟩
/-- law('script', 'cup', 'turn', 'chain', 'rows', 'programs', 'whole', 'fields', 'made') -/
def f_law : Fn := ⟨1, 9, [
  (.set (.nm 1) (.call 11 [(.v 0)])),
  (.for (.nm 2) (.rng (.int 2)) [(.set (.nm 3) (.call 25 [(.v 1), (.int 4)])), (.ite (.not (.tr (.e (.call 30 [(.v 1), (.v 3), (.blt .tuple [(.e (.fr (.lc [8] (.nm 8) (.sq (.e (.v 3))) [] (.call 21 [(.v 8)]))))])])))) [(.ret (.bl false))] [])]),
  (.set (.nm 4) (.fr (.lst [(.tup [(.tup [(.str [110]), .non, (.tup [(.str [105, 110, 116])]), .non]), (.tup [(.str [116]), .non, (.tup [(.str [116, 101, 120, 116])]), .non])]), (.tup [(.tup [(.str [109]), (.str [110]), (.tup [(.str [105, 110, 116])]), .non]), (.tup [(.str [107]), .non, (.tup [(.str [105, 110, 116])]), (.int 2)])]), (.tup [(.tup [(.str [107]), .non, (.tup [(.str [105, 110, 116])]), .non]), (.tup [(.str [110]), (.str [109]), (.tup [(.str [105, 110, 116])]), .non])])]))),
  (.set (.nm 5) (.fr (.lc [7] (.nm 7) (.sq (.e (.v 4))) [] (.tup [(.tup [(.tup [(.str [66, 111, 120]), (.bl false), (.tup [(.tup [(.str [66, 111, 120]), (.v 7)])])])]), (.tup []), (.tup [])])))),
  (.set (.nm 6) (.call 6 [(.call 4 [(.ix (.e (.v 5)) (.int 0)), (.ix (.e (.v 5)) (.int 1))]), (.call 4 [(.ix (.e (.v 5)) (.int 1)), (.ix (.e (.v 5)) (.int 2))])])),
  (.ite (.or (.cmp .ne (.e (.v 6)) (.e (.tup [(.tup [(.str [66, 111, 120]), (.tup [(.tup [(.str [99, 111, 110, 115, 116, 97, 110, 116]), (.int 2)]), (.tup [(.str [102, 114, 111, 109]), (.int 0)])])])]))) (.cmp .ne (.e (.call 7 [(.v 6), (.str [66, 111, 120]), (.tup [(.int 5), (.str [120])])])) (.e (.tup [(.int 2), (.int 5)])))) [(.ret (.bl false))] []),
  (.ret (.cmp .eq (.e (.call 10 [(.blt .tuple [(.e (.v 5))]), (.tup [(.int 4), (.str [66, 111, 120]), (.int 1), (.tup [(.int 5), (.str [120])])])])) (.e (.tup [(.int 4), (.str [66, 111, 120]), (.int 3), (.tup [(.int 2), (.int 5)])]))))]⟩
def fns : List Fn := [f_named, f_fields_in, f_source_in, f_sources_between, f_way_between, f_still_way, f_way_after, f_by_way, f_root_way, f_values_on, f_brought, f__law_cup, f__law_roll, f__law_some, f__law_type, f__law_constant, f__law_free, f__law_field, f__law_case, f__law_first, f__law_exp, f__law_program, f__law_mixed, f__law_kept, f__law_next, f__law_chain, f__law_cases, f__law_row_of, f__law_stepped, f__law_traced, f__law_together_right, f_law]
def cs : List PV := []
end Ak56
end

section
set_option linter.all false
set_option autoImplicit false
set_option maxRecDepth 100000
set_option maxHeartbeats 2000000
/-! the plain law of k56: ways, one after the other -/
namespace Ak56
open Mn
def o : CI := ⟨0, 1, 2, 999, 999, 999, 999, 999, 999, 999, 3, 4, 5, 6, 7, 8, 9, 10, 12, 13, 14, 15, 16, 17, 18, 19, 20, 21, 22, 23, 24, 25, 26, 27, 28, 999⟩
theorem FD : DrwF fns o := { roll := rfl, some_ := rfl, ltyp := rfl, lcon := rfl, lfre := rfl, lfld := rfl, lcas := rfl, lfst := rfl, lexp := rfl, lprg := rfl, lmix := rfl, lkep := rfl, lnxt := rfl, lchn := rfl }
theorem FB : BroF fns o := { nmd := rfl, fin := rfl, sin := rfl, sbt := rfl, wbt := rfl, rwy := rfl, byw := rfl, von := rfl, brg := rfl, lrow := rfl, lstp := rfl }
theorem eq_rp (x : Sg) : cmpPV .ne (.str x) (.str x) = some false := by simp [cmpPV]
theorem case_get {m : Md} (g : m.G) {x : Sg} (hx : x ∈ sortN m) : ixPV (casD m) (.str x) = some (.lst ((cb m x).map Fr.pv)) := by
  obtain ⟨c, hc, rfl⟩ := sortN_mem.mp hx
  exact casD_get g hc
/-- where a value comes from -/
inductive Sc | frm (i : Nat) | con (c : PV)
def Sc.pv : Sc → PV
  | .frm i => .tup [.str FROM, .int (i : Int)]
  | .con c => .tup [.str CONST, c]
def toSc (f : Fr) : Sc := match f.sr with
  | none => .con f.ct
  | some i => .frm i
theorem toSc_pv (f : Fr) : (toSc f).pv = wayF f := by
  unfold toSc wayF
  cases f.sr <;> rfl
def wayV (ns : List Sg) (W : Sg → List Sc) : PV := .tup (ns.map fun x => .tup [.str x, .tup ((W x).map Sc.pv)])
/-- all that is told of stands below k -/
def Bel (k : Nat) (w : List Sc) : Prop := ∀ i, Sc.frm i ∈ w → i < k
def aft1 (u : List Sc) : Sc → Sc
  | .frm i => (u[i]?).getD (.frm 0)
  | .con c => .con c
def aft (u w : List Sc) : List Sc := w.map (aft1 u)
def app1 (vs : List PV) : Sc → PV
  | .frm i => (vs[i]?).getD .non
  | .con c => c
def app (w : List Sc) (vs : List PV) : List PV := w.map (app1 vs)
theorem app_step (fs : List Fr) (vs : List PV) : app (fs.map toSc) vs = stepV fs vs := by
  unfold app stepV
  rw [List.map_map]
  refine map_congr' fun f _ => ?_
  show app1 vs (toSc f) = _
  unfold toSc
  cases f.sr <;> rfl
theorem aft_get {u w : List Sc} (h : Bel u.length w) (vs : List PV) : app (aft u w) vs = app w (app u vs) := by
  unfold app aft
  rw [List.map_map]
  refine map_congr' fun s hs => ?_
  cases s with
  | con c => rfl
  | frm i =>
    have hi := h i hs
    show app1 vs ((u[i]?).getD (.frm 0)) = ((u.map (app1 vs))[i]?).getD .non
    rw [List.getElem?_map, List.getElem?_eq_getElem hi]
    rfl
theorem aft_assoc {u v w : List Sc} (h1 : Bel v.length w) : aft u (aft v w) = aft (aft u v) w := by
  unfold aft
  rw [List.map_map]
  refine map_congr' fun s hs => ?_
  cases s with
  | con c => rfl
  | frm i =>
    have hi := h1 i hs
    show aft1 u ((v[i]?).getD (.frm 0)) = ((v.map (aft1 u))[i]?).getD (.frm 0)
    rw [List.getElem?_map, List.getElem?_eq_getElem hi]
    rfl
theorem aft_len (u w : List Sc) : (aft u w).length = w.length := by simp [aft]
theorem aft_bel {k : Nat} {u w : List Sc} (h : Bel k u) (hw : Bel u.length w) : Bel k (aft u w) := fun i hi => by
  obtain ⟨s, hs, e⟩ := List.mem_map.mp hi
  cases s with
  | con c => cases e
  | frm j =>
    have hj := hw j hs
    have e' : (u[j]?).getD (.frm 0) = .frm i := e
    rw [List.getElem?_eq_getElem hj] at e'
    exact h i (e' ▸ List.getElem_mem hj)
theorem bel_fr {k : Nat} {fs : List Fr} (h : SrOk k fs) : Bel k (fs.map toSc) := fun i hi => by
  obtain ⟨f, hf, e⟩ := List.mem_map.mp hi
  unfold toSc at e
  cases hs : f.sr with
  | none => rw [hs] at e; cases e
  | some j => rw [hs] at e; cases e; exact h f hf _ hs
def still (k : Nat) : List Sc := (List.range k).map .frm
theorem still_len (k : Nat) : (still k).length = k := by simp [still]
theorem still_bel (k : Nat) : Bel k (still k) := fun i hi => by
  obtain ⟨j, hj, e⟩ := List.mem_map.mp hi
  cases e
  exact List.mem_range.mp hj
theorem still_get {k i : Nat} (h : i < k) : (still k)[i]? = some (.frm i) := by
  unfold still
  rw [List.getElem?_map, List.getElem?_range h]
  rfl
theorem aft_stillL {k : Nat} {w : List Sc} (h : Bel k w) : aft (still k) w = w := by
  unfold aft
  conv => rhs; rw [← List.map_id w]
  refine map_congr' fun s hs => ?_
  cases s with
  | con c => rfl
  | frm i =>
    show ((still k)[i]?).getD (.frm 0) = .frm i
    rw [still_get (h i hs)]
    rfl
theorem aft_stillR (u : List Sc) : aft u (still u.length) = u := by
  apply List.ext_getElem?
  intro i
  unfold aft
  rw [List.getElem?_map]
  by_cases h : i < u.length
  · rw [still_get h, List.getElem?_eq_getElem h]
    show some ((u[i]?).getD (.frm 0)) = _
    rw [List.getElem?_eq_getElem h]
    rfl
  · rw [List.getElem?_eq_none (by rw [still_len]; omega), List.getElem?_eq_none (by omega)]
    rfl
theorem wayX_V (a b : Md) : PV.tup ((sortN a).map (wayX b)) = wayV (sortN a) fun x => (cb b x).map toSc := by
  unfold wayV
  congr 1
  refine map_congr' fun x _ => ?_
  unfold wayX
  rw [List.map_map]
  rw [show (Sc.pv ∘ toSc) = wayF from funext toSc_pv]
theorem stiX_V (a : Md) : PV.tup ((sortN a).map (stiX a)) = wayV (sortN a) fun x => still (cb a x).length := by
  unfold wayV
  congr 1
  refine map_congr' fun x _ => ?_
  unfold stiX still
  rw [List.map_map]
  rfl
theorem li_V (ns : List Sg) (W : Sg → List Sc) : listOf (wayV ns W) = some (ns.map fun x => .tup [.str x, .tup ((W x).map Sc.pv)]) := rfl
section
variable {n : Nat} {S : Sto}
theorem byw_sc (n : Nat) (S : Sto) {ns : List Sg} (hn : ns.Nodup) (W : Sg → List Sc) {x : Sg} (hx : x ∈ ns) {vs : List PV} (hs : Bel vs.length (W x)) (hf : (W x).length ≤ 100) :
    callN fns cs 1000000 (n + 1) 7 [wayV ns W, .str x, .tup vs] S = .ok (.tup (app (W x) vs)) S := by
  refine Ok.eq (ok_call (d := f_by_way) rfl rfl ?_)
  have d1 := dct_map (fun y => .tup ((W y).map Sc.pv)) hn
  have d2 := dct_get (fun y => PV.tup ((W y).map Sc.pv)) hx
  have dV : ∀ S, Mn.dr S (wayV ns W) = wayV ns W := fun _ => rfl
  simp [-Bool.exists_bool, f_by_way, enter, wipeE, dV, li_V, d1, dr_dctv, d2]
  refine ok_lcp Sc.pv (app1 vs) (by unfold L; omega) (fun s hs' => ⟨_, rfl, by simp [evTs], ?_⟩) ?_
  · cases s with
    | con c =>
      have e : (CONST == FROM) = false := by decide
      simp [-Bool.exists_bool, Sc.pv, e, app1]
    | frm i =>
      have hi := hs i hs'
      have ix : atPV vs (i : Int) = some vs[i] := by rw [at_nat]; exact List.getElem?_eq_getElem hi
      simp [-Bool.exists_bool, Sc.pv, ix, app1, hi]
  · simp [-Bool.exists_bool, app]
theorem waf_eq (n : Nat) (S : Sto) {ns ms : List Sg} (hm : ms.Nodup) (hl : ns.length ≤ 100) (hsub : ∀ x ∈ ns, x ∈ ms) (U W : Sg → List Sc) (hb : ∀ x ∈ ns, Bel (U x).length (W x)) (hf : ∀ x ∈ ns, (W x).length ≤ 100) :
    callN fns cs 1000000 (n + 1) 6 [wayV ns U, wayV ms W] S = .ok (wayV ns fun x => aft (U x) (W x)) S := by
  refine Ok.eq (ok_call (d := f_way_after) rfl rfl ?_)
  have L2 : 2 ≤ L := by decide
  have d1 := dct_map (fun y => .tup ((W y).map Sc.pv)) hm
  have dV : ∀ S ns W, Mn.dr S (wayV ns W) = wayV ns W := fun _ _ _ => rfl
  have iV : ∀ e, itemsX (.e e) (wayV ns U) = some (ns.map fun x => .tup [.str x, .tup ((U x).map Sc.pv)]) := fun _ => rfl
  simp [-Bool.exists_bool, f_way_after, enter, dV, li_V, d1, iV]
  refine ok_formW (fun x => PV.tup [.str x, .tup ((U x).map Sc.pv)]) (fun r ρ S' => S' = S ∧ (∀ x ∈ r, x ∈ ns) ∧ ∃ (acc : List PV) (s4 s5 : Slot), ρ = [.val (wayV ns U), .val (wayV ms W), .val (.dct (ms.map .s) (ms.map fun y => .tup ((W y).map Sc.pv))), .own acc, s4, s5, .no] ∧ acc ++ r.map (fun x => PV.tup [.str x, .tup ((aft (U x) (W x)).map Sc.pv)]) = ns.map fun x => PV.tup [.str x, .tup ((aft (U x) (W x)).map Sc.pv)]) (fun x r ρ S2 q => ?_) (fun ρ S2 q => ?_) ⟨rfl, fun x h => h, [], _, _, rfl, rfl⟩
  · obtain ⟨rfl, hr, acc, s4, s5, rfl, he⟩ := q
    refine ⟨_, rfl, fun W' w1 _ _ => ?_⟩
    have hx := hr x List.mem_cons_self
    have d2 := dct_get (fun y => PV.tup ((W y).map Sc.pv)) (hsub x hx)
    have al : acc.length < L := by
      have := congrArg List.length he
      simp only [List.length_append, List.length_map, List.length_cons] at this
      unfold L
      omega
    have wl := hf x hx
    simp [-Bool.exists_bool, wipeE, dr_dctv, d2]
    refine ok_lcp Sc.pv (fun s => (aft1 (U x) s).pv) (by unfold L; omega) (fun s hs' => ⟨_, rfl, by simp [evTs], ?_⟩) ?_
    · cases s with
      | con c =>
        have e : (CONST == FROM) = false := by decide
        simp [-Bool.exists_bool, Sc.pv, e, aft1]
      | frm i =>
        have hi := hb x hx i hs'
        have ix : atPV ((U x).map Sc.pv) (i : Int) = some ((U x)[i]).pv := by rw [atm, List.getElem?_eq_getElem hi]; rfl
        have e2 : (aft1 (U x) (.frm i)).pv = ((U x)[i]).pv := by
          show ((((U x)[i]?).getD (.frm 0))).pv = _
          rw [List.getElem?_eq_getElem hi]
          rfl
        rw [e2]
        simp [-Bool.exists_bool, Sc.pv, ix]
    · have ea : ((W x).map fun s => (aft1 (U x) s).pv) = (aft (U x) (W x)).map Sc.pv := by unfold aft; rw [List.map_map]; rfl
      rw [ea]
      simp [-Bool.exists_bool, L2, al]
      exact w1 _ _ ⟨rfl, fun y hy => hr y (List.mem_cons_of_mem _ hy), _, _, _, rfl, by rw [← he]; simp⟩
  · obtain ⟨rfl, hr, acc, s4, s5, rfl, he⟩ := q
    simp only [List.map_nil, List.append_nil] at he
    subst he
    simp [-Bool.exists_bool]
    rfl
end
end Ak56
end

section
set_option linter.all false
set_option autoImplicit false
set_option maxRecDepth 100000
set_option maxHeartbeats 2000000
/-! the plain law of k56: what is traced -/
namespace Ak56
open Mn
/-- the first field that a field comes from, place by place -/
def trc (K : Nat → List Fr) : Nat → Fr → Fr
  | 0, f => f
  | 1, f => f
  | p + 2, f => match f.sr with
    | none => f
    | some i => trc K (p + 1) (((K (p + 1))[i]?).getD f)
theorem trc_none {K : Nat → List Fr} {p : Nat} {f : Fr} (h : f.sr = none) : trc K p f = f := by
  match p with
  | 0 => rfl
  | 1 => rfl
  | p + 2 => simp [trc, h]
theorem trc_some {K : Nat → List Fr} {p i : Nat} {f g : Fr} (h : f.sr = some i) (hg : (K (p + 1))[i]? = some g) : trc K (p + 2) f = trc K (p + 1) g := by
  simp [trc, h, hg]
theorem trc_way {K : Nat → List Fr} (h3 : SrOk (K 2).length (K 3)) (h2 : SrOk (K 1).length (K 2)) {f : Fr} (hf : f ∈ K 3) : toSc (trc K 3 f) = aft1 (aft ((K 1).map toSc) ((K 2).map toSc)) (toSc f) := by
  cases hs : f.sr with
  | none =>
    rw [trc_none hs]
    unfold toSc
    rw [hs]
    rfl
  | some i =>
    have hi := h3 f hf i hs
    obtain ⟨g, hg⟩ : ∃ g, (K 2)[i]? = some g := ⟨_, List.getElem?_eq_getElem hi⟩
    rw [trc_some hs hg]
    have e1 : toSc f = .frm i := by unfold toSc; rw [hs]
    rw [e1]
    show _ = ((aft ((K 1).map toSc) ((K 2).map toSc))[i]?).getD (.frm 0)
    unfold aft
    rw [List.getElem?_map, List.getElem?_map, hg]
    simp only [Option.map_some, Option.getD_some]
    cases hs2 : g.sr with
    | none =>
      rw [trc_none hs2]
      unfold toSc
      rw [hs2]
      rfl
    | some j =>
      have hj := h2 g (List.mem_of_getElem? hg) j hs2
      obtain ⟨d, hd⟩ : ∃ d, (K 1)[j]? = some d := ⟨_, List.getElem?_eq_getElem hj⟩
      rw [trc_some hs2 hd]
      have e2 : toSc g = .frm j := by unfold toSc; rw [hs2]
      rw [e2]
      show toSc d = (((K 1).map toSc)[j]?).getD (.frm 0)
      rw [List.getElem?_map, hd]
      rfl
/-- a chain of four -/
structure Four (c : List Md) (m0 m1 m2 m3 : Md) : Prop where
  e : c = [m0, m1, m2, m3]
  ch : Chain c
theorem Four.g {c : List Md} {m0 m1 m2 m3 : Md} (h : Four c m0 m1 m2 m3) : m0.G ∧ m1.G ∧ m2.G ∧ m3.G := by
  have := h.ch.g
  rw [h.e] at this
  exact ⟨this m0 (by simp), this m1 (by simp), this m2 (by simp), this m3 (by simp)⟩
theorem Four.nx {c : List Md} {m0 m1 m2 m3 : Md} (h : Four c m0 m1 m2 m3) : Nx m0 m1 ∧ Nx m1 m2 ∧ Nx m2 m3 := by
  have := h.ch
  rw [h.e] at this
  exact ⟨this.2.1, this.2.2.2.1, this.2.2.2.2.2.1⟩
/-- the names and sources of a case, all along -/
structure Along (m0 m1 m2 m3 : Md) (x : Sg) : Prop where
  x0 : x ∈ sortN m0
  x1 : x ∈ sortN m1
  x2 : x ∈ sortN m2
  x3 : x ∈ sortN m3
  k1 : SrOk (cb m0 x).length (cb m1 x)
  k2 : SrOk (cb m1 x).length (cb m2 x)
  k3 : SrOk (cb m2 x).length (cb m3 x)
theorem Four.along {c : List Md} {m0 m1 m2 m3 : Md} (h : Four c m0 m1 m2 m3) {x : Sg} (hx : x ∈ sortN m0) : Along m0 m1 m2 m3 x := by
  obtain ⟨g0, g1, g2, g3⟩ := h.g
  obtain ⟨n1, n2, n3⟩ := h.nx
  obtain ⟨x1, k1⟩ := nx_name' n1 g0 g1 hx
  obtain ⟨x2, k2⟩ := nx_name' n2 g1 g2 x1
  obtain ⟨x3, k3⟩ := nx_name' n3 g2 g3 x2
  exact ⟨hx, x1, x2, x3, k1.k.sr, k2.k.sr, k3.k.sr⟩
def KK (m0 m1 m2 m3 : Md) (x : Sg) : Nat → List Fr
  | 0 => cb m0 x
  | 1 => cb m1 x
  | 2 => cb m2 x
  | _ => cb m3 x
/-- the whole way -/
def whole (m1 m2 m3 : Md) (x : Sg) : List Sc := aft (aft ((cb m1 x).map toSc) ((cb m2 x).map toSc)) ((cb m3 x).map toSc)
section
variable {n : Nat} {S : Sto}
theorem traced_eq (n : Nat) (S : Sto) {c : List Md} {m0 m1 m2 m3 : Md} (F : Four c m0 m1 m2 m3) : callN fns cs 1000000 (n + 2) 29 [.lst (c.map Md.pv)] S = .ok (wayV (sortN m0) (whole m1 m2 m3)) S := by
  refine Ok.eq (ok_call (d := f__law_traced) rfl rfl ?_)
  obtain ⟨g0, g1, g2, g3⟩ := F.g
  have L2 : 2 ≤ L := by decide
  have e0 : ∀ n, callN fns cs 1000000 (n + 1) 26 [m0.pv] S = .ok (casD m0) S := fun n => lcss_eq (o := o) rfl n S g0
  have e1 : ∀ n, callN fns cs 1000000 (n + 1) 26 [m1.pv] S = .ok (casD m1) S := fun n => lcss_eq (o := o) rfl n S g1
  have e2 : ∀ n, callN fns cs 1000000 (n + 1) 26 [m2.pv] S = .ok (casD m2) S := fun n => lcss_eq (o := o) rfl n S g2
  have e3 : ∀ n, callN fns cs 1000000 (n + 1) 26 [m3.pv] S = .ok (casD m3) S := fun n => lcss_eq (o := o) rfl n S g3
  have dcD : ∀ S m, Mn.dr S (casD m) = casD m := fun _ _ => rfl
  have CL : c.map Md.pv = [m0.pv, m1.pv, m2.pv, m3.pv] := by rw [F.e]; rfl
  rw [CL]
  have at0 : atPV [m0.pv, m1.pv, m2.pv, m3.pv] 0 = some m0.pv := rfl
  have atm1 : atPV [m0.pv, m1.pv, m2.pv, m3.pv] (-1) = some m3.pv := rfl
  have sl := sortN_len g0
  simp [-Bool.exists_bool, -ok_scons, f__law_traced, enter]
  rw [ok_scons]
  simp [-Bool.exists_bool, -ok_scons]
  rw [ok_scons]
  simp [-Bool.exists_bool, -ok_scons, e0, dcD, srt_casD g0]
  refine ok_formW PV.str (fun r ρ S' => S' = S ∧ (∀ x ∈ r, x ∈ sortN m0) ∧ ∃ (acc : List PV) (s2 s3 s4 s5 s6 : Slot), ρ = [.val (.lst [m0.pv, m1.pv, m2.pv, m3.pv]), .own acc, s2, s3, s4, s5, s6] ∧ acc ++ r.map (fun x => PV.tup [.str x, .tup ((whole m1 m2 m3 x).map Sc.pv)]) = (sortN m0).map fun x => PV.tup [.str x, .tup ((whole m1 m2 m3 x).map Sc.pv)]) (fun x r ρ S2 q => ?_) (fun ρ S2 q => ?_) ⟨rfl, fun x h => h, [], _, _, _, _, _, rfl, rfl⟩
  · obtain ⟨rfl, hr, acc, s2, s3, s4, s5, s6, rfl, he⟩ := q
    refine ⟨_, rfl, fun W w1 _ _ => ?_⟩
    have A := F.along (hr x List.mem_cons_self)
    have al : acc.length < L := by
      have := congrArg List.length he
      simp only [List.length_append, List.length_map, List.length_cons] at this
      unfold L
      omega
    have c3 := cb_g g3 x
    rw [ok_scons]
    simp [-Bool.exists_bool, -ok_scons]
    rw [ok_scons]
    simp [-Bool.exists_bool, -ok_scons, atm1, e3, dcD, case_get g3 A.x3]
    refine ok_formW Fr.pv (fun r2 ρ S' => S' = S2 ∧ (∀ f ∈ r2, f ∈ cb m3 x) ∧ ∃ (srcs : List PV) (s4 s5 s6 : Slot), ρ = [.val (.lst [m0.pv, m1.pv, m2.pv, m3.pv]), .own acc, .val (.str x), .own srcs, s4, s5, s6] ∧ srcs ++ r2.map (fun f => (toSc (trc (KK m0 m1 m2 m3 x) 3 f)).pv) = (whole m1 m2 m3 x).map Sc.pv) (fun f r2 ρ S3 q => ?_) (fun ρ S3 q => ?_) ⟨rfl, fun f h => h, [], _, _, _, rfl, ?_⟩
    · obtain ⟨rfl, hf, srcs, s4, s5, s6, rfl, hs⟩ := q
      refine ⟨_, rfl, fun W2 w2 _ _ => ?_⟩
      have hfm := hf f List.mem_cons_self
      have sl2 : srcs.length < L := by
        have := congrArg List.length hs
        simp only [List.length_append, List.length_map, List.length_cons, whole, aft_len] at this
        have c4 := c3.1
        unfold L
        omega
      have end_ : ∀ (g : Fr) (p : Nat), toSc (trc (KK m0 m1 m2 m3 x) 3 f) = toSc g → Ok (evSs (ctx fns cs 1000000 (n + 1)) [(.app 3 (.ife (.cmp .is (.e (.ix (.e (.v 6)) (.int 4))) (.e .non)) (.tup [(.str [99, 111, 110, 115, 116, 97, 110, 116]), (.ix (.e (.v 6)) (.int 3))]) (.tup [(.str [102, 114, 111, 109]), (.ix (.e (.v 6)) (.int 4))])))] [.val (.lst [m0.pv, m1.pv, m2.pv, m3.pv]), .own acc, .val (.str x), .own srcs, .val f.pv, .val (.int (p : Int)), .val g.pv] S3) W2 := by
        intro g p hg
        have hs' : srcs ++ (toSc g).pv :: r2.map (fun f => (toSc (trc (KK m0 m1 m2 m3 x) 3 f)).pv) = (whole m1 m2 m3 x).map Sc.pv := by rw [← hg]; exact hs
        have hr2 : ∀ f ∈ r2, f ∈ cb m3 x := fun f h => hf f (List.mem_cons_of_mem _ h)
        cases hgs : g.sr with
        | none =>
          have e : (toSc g).pv = .tup [.str CONST, g.ct] := by unfold toSc; rw [hgs]; rfl
          rw [e] at hs'
          simp [-Bool.exists_bool, hgs, optP, L2, sl2]
          exact w2 _ _ ⟨rfl, hr2, _, _, _, _, rfl, by simpa using hs'⟩
        | some i =>
          have e : (toSc g).pv = .tup [.str FROM, .int (i : Int)] := by unfold toSc; rw [hgs]; rfl
          rw [e] at hs'
          simp [-Bool.exists_bool, hgs, optP, L2, sl2]
          exact w2 _ _ ⟨rfl, hr2, _, _, _, _, rfl, by simpa using hs'⟩
      rw [ok_scons]
      simp [-Bool.exists_bool, -ok_scons]
      rw [ok_scons]
      rw [ok_whl]
      refine ok_whlL (fun m ρ S' => S' = S3 ∧ ∃ g : Fr, ρ = [.val (.lst [m0.pv, m1.pv, m2.pv, m3.pv]), .own acc, .val (.str x), .own srcs, .val f.pv, .val (.int (m : Int)), .val g.pv] ∧ 1 ≤ m ∧ m ≤ 3 ∧ g ∈ KK m0 m1 m2 m3 x m ∧ trc (KK m0 m1 m2 m3 x) 3 f = trc (KK m0 m1 m2 m3 x) m g) (fun m ρ S4 q => ?_) (n := 1000000) (m := 3) (by decide) ⟨rfl, f, rfl, by omega, by omega, hfm, rfl⟩
      obtain ⟨rfl, g, rfl, hm1, hm3, hgm, ht⟩ := q
      have go : ∀ (k : Nat) (mk : Md), m = k + 2 → (KK m0 m1 m2 m3 x (k + 1)) = cb mk x → mk.G → x ∈ sortN mk → atPV [m0.pv, m1.pv, m2.pv, m3.pv] ((m : Int) - 1) = some mk.pv → (∀ n, callN fns cs 1000000 (n + 1) 26 [mk.pv] S4 = .ok (casD mk) S4) → ∀ i, g.sr = some i → i < (cb mk x).length → Ok (evSs (ctx fns cs 1000000 (n + 1)) [(.par 5 (.e (.bin .sub (.e (.v 5)) (.e (.int 1)))) 6 (.e (.ix (.e (.ix (.e (.call 26 [(.ix (.e (.v 0)) (.bin .sub (.e (.v 5)) (.e (.int 1))))])) (.v 2))) (.ix (.e (.v 6)) (.int 4)))))] [.val (.lst [m0.pv, m1.pv, m2.pv, m3.pv]), .own acc, .val (.str x), .own srcs, .val f.pv, .val (.int (m : Int)), .val g.pv] S4) fun fl S' => fl = .nx [.val (.lst [m0.pv, m1.pv, m2.pv, m3.pv]), .own acc, .val (.str x), .own srcs, .val f.pv, .val (.int ((k + 1 : Nat) : Int)), .val (((cb mk x)[i]?).getD g).pv] ∧ S' = S4 := by
        intro k mk hk hK hg hx hat hcall i hs hi
        have ixF : atPV ((cb mk x).map Fr.pv) (i : Int) = some ((cb mk x)[i]).pv := by rw [atm, List.getElem?_eq_getElem hi]; rfl
        have e5 : (m : Int) - 1 = ((k + 1 : Nat) : Int) := by omega
        rw [e5] at hat
        simp [-Bool.exists_bool, -Int.natCast_add, e5, hat, hcall, dcD, case_get hg hx, hs, optP, ixF, hi]
      cases hgs : g.sr with
      | none =>
        have := end_ g m (by rw [ht, trc_none hgs])
        by_cases h1 : (1 : Int) < (m : Int)
        · have h1' : 1 < m := by omega
          simp [-Bool.exists_bool, -ok_scons, hgs, optP, h1, h1']
          exact this
        · have h1' : ¬ 1 < m := by omega
          simp [-Bool.exists_bool, -ok_scons, h1, h1']
          exact this
      | some i =>
        by_cases h1 : (1 : Int) < (m : Int)
        · have h1' : 1 < m := by omega
          have next : ∀ (k : Nat) (mk : Md), m = k + 2 → (KK m0 m1 m2 m3 x (k + 1)) = cb mk x → mk.G → x ∈ sortN mk → atPV [m0.pv, m1.pv, m2.pv, m3.pv] ((m : Int) - 1) = some mk.pv → (∀ n, callN fns cs 1000000 (n + 1) 26 [mk.pv] S4 = .ok (casD mk) S4) → i < (cb mk x).length → Ok (evSs (ctx fns cs 1000000 (n + 1)) [(.par 5 (.e (.bin .sub (.e (.v 5)) (.e (.int 1)))) 6 (.e (.ix (.e (.ix (.e (.call 26 [(.ix (.e (.v 0)) (.bin .sub (.e (.v 5)) (.e (.int 1))))])) (.v 2))) (.ix (.e (.v 6)) (.int 4)))))] [.val (.lst [m0.pv, m1.pv, m2.pv, m3.pv]), .own acc, .val (.str x), .own srcs, .val f.pv, .val (.int (m : Int)), .val g.pv] S4) fun fl S => ∃ m', fl = .nx [.val (.lst [m0.pv, m1.pv, m2.pv, m3.pv]), .own acc, .val (.str x), .own srcs, .val f.pv, .val (.int ((m' : Nat) : Int)), .val (((cb mk x)[i]?).getD g).pv] ∧ m' < m ∧ S = S4 ∧ 1 ≤ m' ∧ m' ≤ 3 ∧ (((cb mk x)[i]?).getD g) ∈ KK m0 m1 m2 m3 x m' ∧ trc (KK m0 m1 m2 m3 x) 3 f = trc (KK m0 m1 m2 m3 x) m' (((cb mk x)[i]?).getD g) := by
            intro k mk hk hK hg hx hat hcall hi
            refine (go k mk hk hK hg hx hat hcall i hgs hi).mono fun fl S5 q => ?_
            obtain ⟨rfl, rfl⟩ := q
            have eg : ((cb mk x)[i]?).getD g = (cb mk x)[i] := by rw [List.getElem?_eq_getElem hi]; rfl
            refine ⟨k + 1, rfl, by omega, rfl, by omega, by omega, by rw [hK, eg]; exact List.getElem_mem hi, ?_⟩
            rw [ht, eg]
            subst hk
            exact trc_some hgs (by rw [hK]; exact List.getElem?_eq_getElem hi)
          simp [-Bool.exists_bool, -ok_scons, hgs, optP, h1, h1']
          refine ⟨by omega, ?_⟩
          have fin2 : ∀ mk, (Ok (evSs (ctx fns cs 1000000 (n + 1)) [(.par 5 (.e (.bin .sub (.e (.v 5)) (.e (.int 1)))) 6 (.e (.ix (.e (.ix (.e (.call 26 [(.ix (.e (.v 0)) (.bin .sub (.e (.v 5)) (.e (.int 1))))])) (.v 2))) (.ix (.e (.v 6)) (.int 4)))))] [.val (.lst [m0.pv, m1.pv, m2.pv, m3.pv]), .own acc, .val (.str x), .own srcs, .val f.pv, .val (.int (m : Int)), .val g.pv] S4) fun fl S => ∃ m', fl = .nx [.val (.lst [m0.pv, m1.pv, m2.pv, m3.pv]), .own acc, .val (.str x), .own srcs, .val f.pv, .val (.int ((m' : Nat) : Int)), .val (((cb mk x)[i]?).getD g).pv] ∧ m' < m ∧ S = S4 ∧ 1 ≤ m' ∧ m' ≤ 3 ∧ (((cb mk x)[i]?).getD g) ∈ KK m0 m1 m2 m3 x m' ∧ trc (KK m0 m1 m2 m3 x) 3 f = trc (KK m0 m1 m2 m3 x) m' (((cb mk x)[i]?).getD g)) → True := fun _ _ => trivial
          rcases (by omega : m = 2 ∨ m = 3) with rfl | rfl
          · refine (next 0 m1 rfl rfl g1 A.x1 rfl e1 (A.k2 g hgm i hgs)).mono fun fl S5 q => ?_
            obtain ⟨m', rfl, h2, rfl, h3, h4, h5, h6⟩ := q
            exact ⟨m', h2, rfl, _, rfl, h3, h4, h5, h6⟩
          · refine (next 1 m2 rfl rfl g2 A.x2 rfl e2 (A.k3 g hgm i hgs)).mono fun fl S5 q => ?_
            obtain ⟨m', rfl, h2, rfl, h3, h4, h5, h6⟩ := q
            exact ⟨m', h2, rfl, _, rfl, h3, h4, h5, h6⟩
        · have h1' : ¬ 1 < m := by omega
          have hm : m = 1 := by omega
          subst hm
          have := end_ g 1 (by rw [ht]; rfl)
          simp [-Bool.exists_bool, -ok_scons]
          exact this
    · obtain ⟨rfl, hf, srcs, s4, s5, s6, rfl, hs⟩ := q
      simp only [List.map_nil, List.append_nil] at hs
      subst hs
      simp [-Bool.exists_bool, L2, al, -List.map_map]
      exact w1 _ _ ⟨rfl, fun y hy => hr y (List.mem_cons_of_mem _ hy), _, _, _, _, _, _, rfl, by rw [← he]; simp⟩
    · rw [List.nil_append]
      unfold whole
      rw [show (aft (aft ((cb m1 x).map toSc) ((cb m2 x).map toSc)) ((cb m3 x).map toSc)).map Sc.pv = (cb m3 x).map fun f => (aft1 (aft ((cb m1 x).map toSc) ((cb m2 x).map toSc)) (toSc f)).pv by unfold aft; simp [List.map_map, Function.comp_def]]
      exact map_congr' fun f hf => by rw [trc_way (K := KK m0 m1 m2 m3 x) A.k3 A.k2 hf]; rfl
  · obtain ⟨rfl, hr, acc, s2, s3, s4, s5, s6, rfl, he⟩ := q
    simp only [List.map_nil, List.append_nil] at he
    subst he
    simp [-Bool.exists_bool]
    rfl
end
end Ak56
end

section
set_option linter.all false
set_option autoImplicit false
set_option maxRecDepth 100000
set_option maxHeartbeats 2000000
/-! the plain law of k56: the walk -/
namespace Ak56
open Mn
/-- a source whose text is short -/
def ScOk : Sc → Prop
  | .frm i => i < 100
  | .con c => ∀ n, Sh n 60 c
theorem toSc_ok {f : Fr} (g : f.G) : ScOk (toSc f) := by
  unfold toSc
  cases h : f.sr with
  | none => exact fun n => g.shc n
  | some i => exact g.sr i h
theorem aft_ok {u w : List Sc} (hu : ∀ s ∈ u, ScOk s) (hw : ∀ s ∈ w, ScOk s) : ∀ s ∈ aft u w, ScOk s := fun s hs => by
  obtain ⟨t, ht, rfl⟩ := List.mem_map.mp hs
  cases t with
  | con c => exact hw _ ht
  | frm i =>
    show ScOk ((u[i]?).getD (.frm 0))
    cases h : u[i]? with
    | none => show (0 : Nat) < 100; decide
    | some x => exact hu x (List.mem_of_getElem? h)
theorem shSc {s : Sc} (h : ScOk s) (n : Nat) : Sh (n + 1) 127 s.pv := by
  cases s with
  | frm i => exact (Sh.pair (shF n) (shI (by have : i < 100 := h; omega) n)).mono (by decide)
  | con c => exact (Sh.pair (shC n) (h n)).mono (by decide)
theorem shV {ns : List Sg} (hn : ∀ x ∈ ns, x ∈ ALLS) (hl : ns.length ≤ 12) {W : Sg → List Sc} (hW : ∀ x ∈ ns, (W x).length ≤ 4 ∧ ∀ s ∈ W x, ScOk s) : ∃ x, bltPV .repr [wayV ns W] = some (.str x) := by
  have : Sh 24 20000 (wayV ns W) := by
    refine (Sh.tupN (n := 23) (b := 1100) (m := 12) (fun x hx => ?_) (by rw [List.length_map]; exact hl)).mono (by decide)
    obtain ⟨y, hy, rfl⟩ := List.mem_map.mp hx
    obtain ⟨h1, h2⟩ := hW y hy
    have hs := (shS (hn y hy) 22).mono (show 60 ≤ 519 by decide)
    refine (Sh.pair hs ((Sh.tupN (n := 21) (b := 127) (m := 4) (fun z hz => ?_) (by simpa using h1)).mono (by decide))).mono (by decide)
    obtain ⟨s, hs, rfl⟩ := List.mem_map.mp hz
    exact shSc (h2 s hs) 20
  exact ⟨_, repr_rp this (by decide) (by decide)⟩
theorem fr_ok {m : Md} (g : m.G) (x : Sg) : ((cb m x).map toSc).length ≤ 4 ∧ ∀ s ∈ (cb m x).map toSc, ScOk s := by
  obtain ⟨h1, h2⟩ := cb_g g x
  refine ⟨by simpa using h1, fun s hs => ?_⟩
  obtain ⟨f, hf, rfl⟩ := List.mem_map.mp hs
  exact toSc_ok (h2 f hf)
theorem wayV_congr {ns : List Sg} {U W : Sg → List Sc} (h : ∀ x ∈ ns, U x = W x) : wayV ns U = wayV ns W := by
  unfold wayV
  congr 1
  exact map_congr' fun x hx => by rw [h x hx]
section
variable {n : Nat} {S : Sto}
theorem together_ok (hcup : Cup S) {c : List Md} {m0 m1 m2 m3 : Md} (F : Four c m0 m1 m2 m3) : Ok (callN fns cs 1000000 (n + 8) 30 [.ref 0, .lst (c.map Md.pv), Pgs c] S) fun r S' => r = .bl true ∧ Cup S' ∧ Later S S' := by
  refine ok_call (d := f__law_together_right) rfl rfl ?_
  obtain ⟨g0, g1, g2, g3⟩ := F.g
  obtain ⟨n1, n2, n3⟩ := F.nx
  have L4 : 4 ≤ L := by decide
  have L3 : (List.range 3).length ≤ L := by decide
  have al := fun x (hx : x ∈ sortN m0) => F.along hx
  have nd0 := sortN_nd g0
  have nd1 := sortN_nd g1
  have nd2 := sortN_nd g2
  have l0 := sortN_len g0
  have l1 := sortN_len g1
  have sub0 : ∀ x ∈ sortN m0, x ∈ sortN m1 := fun x hx => (al x hx).x1
  have sub1 : ∀ x ∈ sortN m1, x ∈ sortN m2 := fun x hx => (nx_name' n2 g1 g2 hx).1
  generalize hF1 : (fun x => (cb m1 x).map toSc) = F1
  generalize hF2 : (fun x => (cb m2 x).map toSc) = F2
  generalize hF3 : (fun x => (cb m3 x).map toSc) = F3
  have f1l : ∀ x, (F1 x).length = (cb m1 x).length := fun x => by rw [← hF1]; simp
  have f2l : ∀ x, (F2 x).length = (cb m2 x).length := fun x => by rw [← hF2]; simp
  have f3l : ∀ x, (F3 x).length = (cb m3 x).length := fun x => by rw [← hF3]; simp
  have b4 : ∀ m : Md, m.G → ∀ x, (cb m x).length ≤ 4 := fun m g x => (cb_g g x).1
  have o1 : ∀ x, (F1 x).length ≤ 4 ∧ ∀ s ∈ F1 x, ScOk s := fun x => by rw [← hF1]; exact fr_ok g1 x
  have o2 : ∀ x, (F2 x).length ≤ 4 ∧ ∀ s ∈ F2 x, ScOk s := fun x => by rw [← hF2]; exact fr_ok g2 x
  have o3 : ∀ x, (F3 x).length ≤ 4 ∧ ∀ s ∈ F3 x, ScOk s := fun x => by rw [← hF3]; exact fr_ok g3 x
  have k1 : ∀ x ∈ sortN m0, Bel (cb m0 x).length (F1 x) := fun x hx => by rw [← hF1]; exact bel_fr (al x hx).k1
  have k2 : ∀ x ∈ sortN m1, Bel (F1 x).length (F2 x) := fun x hx => by rw [f1l, ← hF2]; exact bel_fr (nx_name' n2 g1 g2 hx).2.k.sr
  have k3 : ∀ x ∈ sortN m2, Bel (F2 x).length (F3 x) := fun x hx => by rw [f2l, ← hF3]; exact bel_fr (nx_name' n3 g2 g3 hx).2.k.sr
  have w0 : ∀ S, callN fns cs 1000000 (n + 7) 4 [m0.toP.pv, m1.toP.pv] S = .ok (wayV (sortN m0) F1) S := fun S => by rw [← hF1, ← wayX_V]; exact wbt_nx (o := o) FB.toWayF (n + 4) S g0 g1 n1
  have w1 : ∀ S, callN fns cs 1000000 (n + 7) 4 [m1.toP.pv, m2.toP.pv] S = .ok (wayV (sortN m1) F2) S := fun S => by rw [← hF2, ← wayX_V]; exact wbt_nx (o := o) FB.toWayF (n + 4) S g1 g2 n2
  have w2 : ∀ S, callN fns cs 1000000 (n + 7) 4 [m2.toP.pv, m3.toP.pv] S = .ok (wayV (sortN m2) F3) S := fun S => by rw [← hF3, ← wayX_V]; exact wbt_nx (o := o) FB.toWayF (n + 4) S g2 g3 n3
  have a01 : ∀ S, callN fns cs 1000000 (n + 7) 6 [wayV (sortN m0) F1, wayV (sortN m1) F2] S = .ok (wayV (sortN m0) fun x => aft (F1 x) (F2 x)) S := fun S => waf_eq (n + 6) S nd1 (by omega) sub0 F1 F2 (fun x hx => k2 x (sub0 x hx)) (fun x hx => by have := (o2 x).1; omega)
  have a012 : ∀ S, callN fns cs 1000000 (n + 7) 6 [wayV (sortN m0) fun x => aft (F1 x) (F2 x), wayV (sortN m2) F3] S = .ok (wayV (sortN m0) fun x => aft (aft (F1 x) (F2 x)) (F3 x)) S := fun S => waf_eq (n + 6) S nd2 (by omega) (fun x hx => (al x hx).x2) _ F3 (fun x hx => by rw [aft_len]; exact k3 x (al x hx).x2) (fun x hx => by have := (o3 x).1; omega)
  have a12 : ∀ S, callN fns cs 1000000 (n + 7) 6 [wayV (sortN m1) F2, wayV (sortN m2) F3] S = .ok (wayV (sortN m1) fun x => aft (F2 x) (F3 x)) S := fun S => waf_eq (n + 6) S nd2 (by omega) sub1 F2 F3 (fun x hx => k3 x (sub1 x hx)) (fun x hx => by have := (o3 x).1; omega)
  have aL : ∀ S, callN fns cs 1000000 (n + 7) 6 [wayV (sortN m0) F1, wayV (sortN m1) fun x => aft (F2 x) (F3 x)] S = .ok (wayV (sortN m0) fun x => aft (aft (F1 x) (F2 x)) (F3 x)) S := fun S => by
    rw [waf_eq (n + 6) S nd1 (by omega) sub0 F1 (fun x => aft (F2 x) (F3 x)) (fun x hx => aft_bel (k2 x (sub0 x hx)) (k3 x (al x hx).x2)) (fun x hx => by rw [aft_len]; have := (o3 x).1; omega)]
    congr 1
    exact wayV_congr fun x hx => aft_assoc (k3 x (al x hx).x2)
  have st0 : ∀ S, callN fns cs 1000000 (n + 7) 5 [m0.toP.pv] S = .ok (wayV (sortN m0) fun x => still (cb m0 x).length) S := fun S => by rw [← stiX_V]; exact stw_eq (o := o) rfl (n + 6) S g0
  have st1 : ∀ S, callN fns cs 1000000 (n + 7) 5 [m1.toP.pv] S = .ok (wayV (sortN m1) fun x => still (cb m1 x).length) S := fun S => by rw [← stiX_V]; exact stw_eq (o := o) rfl (n + 6) S g1
  have s0 : ∀ S, callN fns cs 1000000 (n + 7) 6 [wayV (sortN m0) fun x => still (cb m0 x).length, wayV (sortN m0) F1] S = .ok (wayV (sortN m0) F1) S := fun S => by
    rw [waf_eq (n + 6) S nd0 (by omega) (fun x hx => hx) (fun x => still (cb m0 x).length) F1 (fun x hx => by rw [still_len]; exact k1 x hx) (fun x hx => by have := (o1 x).1; omega)]
    congr 1
    exact wayV_congr fun x hx => aft_stillL (k1 x hx)
  have s1 : ∀ S, callN fns cs 1000000 (n + 7) 6 [wayV (sortN m0) F1, wayV (sortN m1) fun x => still (cb m1 x).length] S = .ok (wayV (sortN m0) F1) S := fun S => by
    rw [waf_eq (n + 6) S nd1 (by omega) sub0 F1 (fun x => still (cb m1 x).length) (fun x hx => by rw [f1l]; exact still_bel _) (fun x hx => by rw [still_len]; have := b4 m1 g1 x; omega)]
    congr 1
    exact wayV_congr fun x hx => by rw [← f1l]; exact aft_stillR _
  have tr : ∀ S, callN fns cs 1000000 (n + 7) 29 [.lst (c.map Md.pv)] S = .ok (wayV (sortN m0) fun x => aft (aft (F1 x) (F2 x)) (F3 x)) S := fun S => by
    rw [← hF1, ← hF2, ← hF3]
    exact traced_eq (n + 5) S F
  obtain ⟨t1, r1⟩ := shV (fun x hx => sortN_alls g0 hx) l0 (W := fun x => aft (aft (F1 x) (F2 x)) (F3 x)) fun x hx => ⟨by rw [aft_len]; exact (o3 x).1, aft_ok (aft_ok (o1 x).2 (o2 x).2) (o3 x).2⟩
  obtain ⟨t2, r2⟩ := shV (fun x hx => sortN_alls g0 hx) l0 (W := F1) fun x hx => o1 x
  have PL : Pgs c = .tup [m0.toP.pv, m1.toP.pv, m2.toP.pv, m3.toP.pv] := by rw [F.e]; rfl
  have CL : c.map Md.pv = [m0.pv, m1.pv, m2.pv, m3.pv] := by rw [F.e]; rfl
  have at0 : ixPV (.lst (c.map Md.pv)) (.int 0) = some m0.pv := by rw [CL]; rfl
  have dV : ∀ S ns W, Mn.dr S (wayV ns W) = wayV ns W := fun _ _ _ => rfl
  have dcD : ∀ S m, Mn.dr S (casD m) = casD m := fun _ _ => rfl
  have e0 : ∀ n S, callN fns cs 1000000 (n + 1) 26 [m0.pv] S = .ok (casD m0) S := fun n S => lcss_eq (o := o) rfl n S g0
  have PI0 : ixPV (Pgs c) (.int 0) = some m0.toP.pv := by rw [PL]; rfl
  have PI1 : ixPV (Pgs c) (.int 1) = some m1.toP.pv := by rw [PL]; rfl
  have PI2 : ixPV (Pgs c) (.int 2) = some m2.toP.pv := by rw [PL]; rfl
  have PI3 : ixPV (Pgs c) (.int 3) = some m3.toP.pv := by rw [PL]; rfl
  have dP : ∀ S, Mn.dr S (Pgs c) = Pgs c := fun S => by rw [PL]; rfl
  have dL : ∀ S, Mn.dr S (.lst (c.map Md.pv)) = .lst (c.map Md.pv) := fun _ => rfl
  simp only [f__law_together_right, enter, List.map_cons, List.map_nil, List.length_cons, List.length_nil, Nat.reduceAdd, Nat.reduceSub, List.replicate, List.cons_append, List.nil_append]
  generalize hCP : PV.lst (c.map Md.pv) = CP at tr at0 dL ⊢
  rw [ok_scons]
  simp [-Bool.exists_bool, -ok_scons, wipeE]
  rw [show rngI 0 3 = (List.range 3).map fun i : Nat => PV.int (i : Int) from rfl]
  refine ok_lcp (fun i : Nat => PV.int (i : Int)) (fun i => ([wayV (sortN m0) F1, wayV (sortN m1) F2, wayV (sortN m2) F3][i]?).getD .non) L3 (fun i hi => ⟨_, rfl, by simp [evTs], ?_⟩) ?_
  · have hi3 := List.mem_range.mp hi
    rcases (by omega : i = 0 ∨ i = 1 ∨ i = 2) with rfl | rfl | rfl
    · simp [-Bool.exists_bool, dP, PI0, PI1, w0]
    · simp [-Bool.exists_bool, dP, PI1, PI2, w1]
    · simp [-Bool.exists_bool, dP, PI2, PI3, w2]
  rw [show ((List.range 3).map fun i => ([wayV (sortN m0) F1, wayV (sortN m1) F2, wayV (sortN m2) F3][i]?).getD .non) = [wayV (sortN m0) F1, wayV (sortN m1) F2, wayV (sortN m2) F3] from rfl]
  try simp [-Bool.exists_bool, -ok_scons]
  rw [ok_scons]
  simp [-Bool.exists_bool, -ok_scons, a01, a012]
  rw [ok_scons]
  simp [-Bool.exists_bool, -ok_scons, dV, r1, tr, eq_rp, a12, aL]
  rw [ok_scons]
  simp [-Bool.exists_bool, -ok_scons, dV, dP, PI0, PI1, st0, st1, s0, s1, r2, eq_rp]
  rw [ok_scons]
  simp [-Bool.exists_bool, -ok_scons, dL, at0, e0]
  rw [ok_scons]
  simp [-Bool.exists_bool, -ok_scons, items_casD]
  refine ok_formW (fun c : Cr => PV.str c.nm) (fun r ρ S' => Cup S' ∧ Later S S' ∧ (∀ d ∈ r, d ∈ caseL m0) ∧ ∃ (s6 s7 s8 s9 : Slot), ρ = [.val (.ref 0), .val CP, .val (Pgs c), .val (.lst [wayV (sortN m0) F1, wayV (sortN m1) F2, wayV (sortN m2) F3]), .val (wayV (sortN m0) fun x => aft (aft (F1 x) (F2 x)) (F3 x)), .val (casD m0), s6, s7, s8, s9, .no]) (fun d r2' ρ S3 q => ?_) (fun ρ S3 q => ?_) ⟨hcup, .refl S, fun d h => h, _, _, _, _, rfl⟩
  · obtain ⟨hc3, hl3, hd, s6, s7, s8, s9, rfl⟩ := q
    have hd' : ∀ e ∈ r2', e ∈ caseL m0 := fun e he => hd e (List.mem_cons_of_mem _ he)
    have hdm := hd d List.mem_cons_self
    have hx : d.nm ∈ sortN m0 := sortN_mem.mpr ⟨d, hdm, rfl⟩
    have A := al d.nm hx
    have cg := cb_g g0 d.nm
    refine ⟨_, rfl, fun W2 w2' _ _ => ?_⟩
    rw [ok_scons]
    simp [-Bool.exists_bool, -ok_scons, dcD, case_get g0 hx]
    refine (lrow_ok (n := n + 4) FB FD hc3 (cb m0 d.nm) cg.2 (by have := cg.1; omega)).mono fun p S5 q => ?_
    obtain ⟨vs, rfl, hlen, hval, _, hc5, hl5⟩ := q
    have p1 : ∀ us : List PV, app (F1 d.nm) us = stepV (cb m1 d.nm) us := fun us => by rw [← hF1]; exact app_step _ _
    have p2 : ∀ us : List PV, app (F2 d.nm) us = stepV (cb m2 d.nm) us := fun us => by rw [← hF2]; exact app_step _ _
    have p3 : ∀ us : List PV, app (F3 d.nm) us = stepV (cb m3 d.nm) us := fun us => by rw [← hF3]; exact app_step _ _
    have y1 : ∀ S, callN fns cs 1000000 (n + 7) 7 [wayV (sortN m0) F1, .str d.nm, .tup vs] S = .ok (.tup (stepV (cb m1 d.nm) vs)) S := fun S => by rw [← p1]; exact byw_sc (n + 6) S nd0 F1 hx (by rw [hlen]; exact k1 _ hx) (by have := (o1 d.nm).1; omega)
    have y2 : ∀ S, callN fns cs 1000000 (n + 7) 7 [wayV (sortN m1) F2, .str d.nm, .tup (stepV (cb m1 d.nm) vs)] S = .ok (.tup (stepV (cb m2 d.nm) (stepV (cb m1 d.nm) vs))) S := fun S => by rw [← p2]; exact byw_sc (n + 6) S nd1 F2 A.x1 (by rw [stepV_len, ← f1l]; exact k2 _ A.x1) (by have := (o2 d.nm).1; omega)
    have y3 : ∀ S, callN fns cs 1000000 (n + 7) 7 [wayV (sortN m2) F3, .str d.nm, .tup (stepV (cb m2 d.nm) (stepV (cb m1 d.nm) vs))] S = .ok (.tup (stepV (cb m3 d.nm) (stepV (cb m2 d.nm) (stepV (cb m1 d.nm) vs)))) S := fun S => by rw [← p3]; exact byw_sc (n + 6) S nd2 F3 A.x2 (by rw [stepV_len, ← f2l]; exact k3 _ A.x2) (by have := (o3 d.nm).1; omega)
    have yW : ∀ S, callN fns cs 1000000 (n + 7) 7 [wayV (sortN m0) fun x => aft (aft (F1 x) (F2 x)) (F3 x), .str d.nm, .tup vs] S = .ok (.tup (stepV (cb m3 d.nm) (stepV (cb m2 d.nm) (stepV (cb m1 d.nm) vs)))) S := fun S => by
      rw [← p3, ← p2, ← p1, ← aft_get (k2 _ A.x1), ← aft_get (by rw [aft_len]; exact k3 _ A.x2)]
      exact byw_sc (n + 6) S nd0 (fun x => aft (aft (F1 x) (F2 x)) (F3 x)) hx (by rw [hlen]; exact aft_bel (aft_bel (k1 _ hx) (k2 _ A.x1)) (by rw [aft_len]; exact k3 _ A.x2)) (by rw [aft_len]; have := (o3 d.nm).1; omega)
    have hv0 : c[1 - 1]? = some m0 := by rw [F.e]; rfl
    have cl4 : c.length = 4 := by rw [F.e]; rfl
    have ecam : camK (fun m => cb m d.nm) (c.drop 1) vs = stepV (cb m3 d.nm) (stepV (cb m2 d.nm) (stepV (cb m1 d.nm) vs)) := by rw [F.e]; rfl
    have br : ∀ S, callN fns cs 1000000 (n + 7) 10 [Pgs c, .tup [.int 4, .str d.nm, .int 1, .tup vs]] S = .ok (.tup [.int 4, .str d.nm, .int 4, .tup (stepV (cb m3 d.nm) (stepV (cb m2 d.nm) (stepV (cb m1 d.nm) vs)))]) S := fun S => by
      have := brg_case (cs := cs) (w := 1000000) FB (n + 2) S F.ch (by omega) (v := 1) (by omega) (by omega) hv0 hx hlen hval 4
      rw [cl4, ecam] at this
      exact this
    obtain ⟨cv1, cv2⟩ := cam_val (goes_case F.ch (by omega) hv0 hx) (by omega) (by omega) (.start (c := c) (K := fun m => cb m d.nm) (v := 1) (vs := vs) (fun z hz => by rw [hv0] at hz; cases hz; exact hlen) hval)
    rw [ecam] at cv1
    have ul : (stepV (cb m3 d.nm) (stepV (cb m2 d.nm) (stepV (cb m1 d.nm) vs))).length ≤ 10 := by rw [stepV_len]; have := b4 m3 g3 d.nm; omega
    obtain ⟨x, rr⟩ := shRow (num := 4) (by omega) (by omega) (fun n => shS (sortN_alls g0 hx) n) (show 4 < 1000 by omega) cv1 ul
    have rr' : bltPV .repr [.tup [.int 4, .str d.nm, .int 4, .tup (stepV (cb m3 d.nm) (stepV (cb m2 d.nm) (stepV (cb m1 d.nm) vs)))]] = some (.str x) := rr
    obtain ⟨x2, rr2⟩ : ∃ x, bltPV .repr [.tup (stepV (cb m3 d.nm) (stepV (cb m2 d.nm) (stepV (cb m1 d.nm) vs)))] = some (.str x) := ⟨_, repr_rp ((Sh.tupN (n := 18) (b := 127) (m := 10) (fun u h => (cv1 u h).sh 17) ul).mono (show _ ≤ 2000 by decide)) (by decide) (by decide)⟩
    generalize stepV (cb m3 d.nm) (stepV (cb m2 d.nm) (stepV (cb m1 d.nm) vs)) = V3 at *
    generalize stepV (cb m2 d.nm) (stepV (cb m1 d.nm) vs) = V2 at *
    generalize stepV (cb m1 d.nm) vs = V1 at *
    try simp [-Bool.exists_bool, -ok_scons]
    rw [ok_scons]
    simp [-Bool.exists_bool, -ok_scons]
    rw [ok_scons]
    simp [-Bool.exists_bool, -ok_scons, forL, y1, y2, y3]
    rw [ok_scons]
    simp [-Bool.exists_bool, y1, y2, y3, yW, br, rr', rr2, eq_rp, L4]
    exact w2' _ _ ⟨hc5, hl3.trans hl5, hd', _, _, _, _, rfl⟩
  · obtain ⟨hc3, hl3, hd, s6, s7, s8, s9, rfl⟩ := q
    simp [-Bool.exists_bool]
    exact ⟨hc3, hl3⟩
theorem written_ok (s0 s1 s2 s3 s4 s5 s6 s7 s8 : Slot) (S : Sto) : evSs (ctx fns cs 1000000 199) (f_law.body.drop 2) [s0, s1, s2, s3, s4, s5, s6, s7, s8] S = .ok (.rt (.bl true)) S := by kernel_rfl
theorem law_ok : ∀ ns : List Int, ns.length ≤ 63 → ∃ S', callN fns cs 1000000 200 31 [.lst (ns.map .int)] [] = .ok (.bl true) S' := by
  intro ns hn
  have key : Ok (callN fns cs 1000000 200 31 [.lst (ns.map .int)] []) fun r S' => r = .bl true := by
    refine ok_call (d := f_law) rfl rfl ?_
    rw [show f_law.body = f_law.body.take 2 ++ f_law.body.drop 2 from rfl]
    have wr := written_ok
    generalize f_law.body.drop 2 = B at wr ⊢
    simp [-Bool.exists_bool, -ok_scons, f_law, enter]
    rw [ok_scons]
    simp [-Bool.exists_bool, -ok_scons]
    refine (cup_ok (f := 11) rfl hn).mono fun p S1 q => ?_
    obtain ⟨rfl, hl, hc⟩ := q
    try simp [-Bool.exists_bool, -ok_scons]
    rw [ok_scons]
    simp [-Bool.exists_bool, -ok_scons]
    refine ok_forL (fun _ ρ S' => Cup S' ∧ ∃ s0 s2 s3 s4 s5 s6 s7 s8, ρ = [s0, .val (.ref 0), s2, s3, s4, s5, s6, s7, s8]) (fun x r ρ S2 q => ?_) (fun ρ S2 q => ?_) ⟨hc, _, _, _, _, _, _, _, _, rfl⟩
    · obtain ⟨hc2, s0, s2, s3, s4, s5, s6, s7, s8, rfl⟩ := q
      refine ⟨_, rfl, ?_⟩
      rw [ok_scons]
      simp [-Bool.exists_bool, -ok_scons]
      refine (lchn_ok (cs := cs) (w := 1000000) (n := 190) (o := o) FD hc2 4 (by omega) (by omega)).mono fun p S4 q => ?_
      obtain ⟨xs, rfl, a, r, rfl, hch, na, hlen, hc4, hl4⟩ := q
      obtain ⟨b, c, d, rfl⟩ : ∃ b c d, r = [b, c, d] := by
        match r, hlen with
        | [b, c, d], _ => exact ⟨b, c, d, rfl⟩
      have F : Four [a, b, c, d] a b c d := ⟨rfl, hch⟩
      generalize [a, b, c, d] = ch at F hch hlen
      have p1 : ∀ m ∈ ch, ∀ S, callN fns cs 1000000 199 21 [m.pv] S = .ok m.toP.pv S := fun m hm S => lprg_eq (o := o) FD 197 S (hch.g m hm)
      try simp [-Bool.exists_bool, -ok_scons]
      rw [ok_scons]
      simp [-Bool.exists_bool, -ok_scons, wipeE]
      refine ok_lcp Md.pv (fun m => m.toP.pv) (by unfold L; omega) (fun m hm => ⟨_, rfl, by simp [evTs], by simp [-Bool.exists_bool, p1 m hm]⟩) ?_
      rw [show PV.tup (ch.map fun m => m.toP.pv) = Pgs ch from rfl]
      try simp [-Bool.exists_bool, -ok_scons]
      refine (together_ok (n := 191) hc4 F).mono fun p S5 q => ?_
      obtain ⟨rfl, hc5, hl5⟩ := q
      simp [-Bool.exists_bool]
      exact hc5
    · obtain ⟨hc2, s0, s2, s3, s4, s5, s6, s7, s8, rfl⟩ := q
      simp only [sq_nx]
      exact ok_of (wr _ _ _ _ _ _ _ _ _ _) rfl
  obtain ⟨r, S', e, rfl⟩ := key
  exact ⟨S', e⟩
end
end Ak56
end

section
set_option Elab.async false
set_option linter.all false
set_option autoImplicit false
set_option maxRecDepth 100000
set_option maxHeartbeats 0
namespace Ak56
open PySem PySem.Spec PyProof.Rows L2 Mn
def top (i : Nat) : Stmt := PySem.Challenge.pw_persisthall_k56_whole_ways_together.main.body.getD i (.Pass ⟨0, 0, 0, 0⟩)
def d0 : He.DefD := ⟨("named", none), "named", "named", defArgs (top 1), defBody (top 1), defScope (top 1), [], []⟩
def d1 : He.DefD := ⟨("fields_in", none), "fields_in", "fields_in", defArgs (top 2), defBody (top 2), defScope (top 2), [], []⟩
def d2 : He.DefD := ⟨("source_in", none), "source_in", "source_in", defArgs (top 3), defBody (top 3), defScope (top 3), [], []⟩
def d3 : He.DefD := ⟨("sources_between", none), "sources_between", "sources_between", defArgs (top 5), defBody (top 5), defScope (top 5), [], []⟩
def d4 : He.DefD := ⟨("way_between", none), "way_between", "way_between", defArgs (top 6), defBody (top 6), defScope (top 6), [], []⟩
def d5 : He.DefD := ⟨("still_way", none), "still_way", "still_way", defArgs (top 7), defBody (top 7), defScope (top 7), [], []⟩
def d6 : He.DefD := ⟨("way_after", none), "way_after", "way_after", defArgs (top 8), defBody (top 8), defScope (top 8), [], []⟩
def d7 : He.DefD := ⟨("by_way", none), "by_way", "by_way", defArgs (top 9), defBody (top 9), defScope (top 9), [], []⟩
def d8 : He.DefD := ⟨("root_way", none), "root_way", "root_way", defArgs (top 10), defBody (top 10), defScope (top 10), [], []⟩
def d9 : He.DefD := ⟨("values_on", none), "values_on", "values_on", defArgs (top 11), defBody (top 11), defScope (top 11), [], []⟩
def d10 : He.DefD := ⟨("brought", none), "brought", "brought", defArgs (top 12), defBody (top 12), defScope (top 12), [], []⟩
def d11 : He.DefD := ⟨("_law_cup", none), "_law_cup", "_law_cup", defArgs (top 14), defBody (top 14), defScope (top 14), [], []⟩
def d12 : He.DefD := ⟨("_law_roll", none), "_law_roll", "_law_roll", defArgs (top 15), defBody (top 15), defScope (top 15), [], []⟩
def d13 : He.DefD := ⟨("_law_some", none), "_law_some", "_law_some", defArgs (top 16), defBody (top 16), defScope (top 16), [], []⟩
def d14 : He.DefD := ⟨("_law_type", none), "_law_type", "_law_type", defArgs (top 17), defBody (top 17), defScope (top 17), [], []⟩
def d15 : He.DefD := ⟨("_law_constant", none), "_law_constant", "_law_constant", defArgs (top 18), defBody (top 18), defScope (top 18), [], []⟩
def d16 : He.DefD := ⟨("_law_free", none), "_law_free", "_law_free", defArgs (top 19), defBody (top 19), defScope (top 19), [], []⟩
def d17 : He.DefD := ⟨("_law_field", none), "_law_field", "_law_field", defArgs (top 20), defBody (top 20), defScope (top 20), [], []⟩
def d18 : He.DefD := ⟨("_law_case", none), "_law_case", "_law_case", defArgs (top 21), defBody (top 21), defScope (top 21), [], []⟩
def d19 : He.DefD := ⟨("_law_first", none), "_law_first", "_law_first", defArgs (top 22), defBody (top 22), defScope (top 22), [], []⟩
def d20 : He.DefD := ⟨("_law_exp", none), "_law_exp", "_law_exp", defArgs (top 23), defBody (top 23), defScope (top 23), [], []⟩
def d21 : He.DefD := ⟨("_law_program", none), "_law_program", "_law_program", defArgs (top 24), defBody (top 24), defScope (top 24), [], []⟩
def d22 : He.DefD := ⟨("_law_mixed", none), "_law_mixed", "_law_mixed", defArgs (top 25), defBody (top 25), defScope (top 25), [], []⟩
def d23 : He.DefD := ⟨("_law_kept", none), "_law_kept", "_law_kept", defArgs (top 26), defBody (top 26), defScope (top 26), [], []⟩
def d24 : He.DefD := ⟨("_law_next", none), "_law_next", "_law_next", defArgs (top 27), defBody (top 27), defScope (top 27), [], []⟩
def d25 : He.DefD := ⟨("_law_chain", none), "_law_chain", "_law_chain", defArgs (top 28), defBody (top 28), defScope (top 28), [], []⟩
def d26 : He.DefD := ⟨("_law_cases", none), "_law_cases", "_law_cases", defArgs (top 29), defBody (top 29), defScope (top 29), [], []⟩
def d27 : He.DefD := ⟨("_law_row_of", none), "_law_row_of", "_law_row_of", defArgs (top 30), defBody (top 30), defScope (top 30), [], []⟩
def d28 : He.DefD := ⟨("_law_stepped", none), "_law_stepped", "_law_stepped", defArgs (top 31), defBody (top 31), defScope (top 31), [], []⟩
def d29 : He.DefD := ⟨("_law_traced", none), "_law_traced", "_law_traced", defArgs (top 32), defBody (top 32), defScope (top 32), [], []⟩
def d30 : He.DefD := ⟨("_law_together_right", none), "_law_together_right", "_law_together_right", defArgs (top 33), defBody (top 33), defScope (top 33), [], []⟩
def d31 : He.DefD := ⟨("law", none), "law", "law", defArgs (top 34), defBody (top 34), defScope (top 34), [], []⟩
def fn : List He.DefD := [d0, d1, d2, d3, d4, d5, d6, d7, d8, d9, d10, d11, d12, d13, d14, d15, d16, d17, d18, d19, d20, d21, d22, d23, d24, d25, d26, d27, d28, d29, d30, d31]
def fnn : List Str := [("named" : PySem.Str), ("fields_in" : PySem.Str), ("source_in" : PySem.Str), ("sources_between" : PySem.Str), ("way_between" : PySem.Str), ("still_way" : PySem.Str), ("way_after" : PySem.Str), ("by_way" : PySem.Str), ("root_way" : PySem.Str), ("values_on" : PySem.Str), ("brought" : PySem.Str), ("_law_cup" : PySem.Str), ("_law_roll" : PySem.Str), ("_law_some" : PySem.Str), ("_law_type" : PySem.Str), ("_law_constant" : PySem.Str), ("_law_free" : PySem.Str), ("_law_field" : PySem.Str), ("_law_case" : PySem.Str), ("_law_first" : PySem.Str), ("_law_exp" : PySem.Str), ("_law_program" : PySem.Str), ("_law_mixed" : PySem.Str), ("_law_kept" : PySem.Str), ("_law_next" : PySem.Str), ("_law_chain" : PySem.Str), ("_law_cases" : PySem.Str), ("_law_row_of" : PySem.Str), ("_law_stepped" : PySem.Str), ("_law_traced" : PySem.Str), ("_law_together_right" : PySem.Str), ("law" : PySem.Str)]
def cn : List Str := []
def free : List Str := [("len" : PySem.Str), ("abs" : PySem.Str), ("int" : PySem.Str), ("tuple" : PySem.Str), ("repr" : PySem.Str), ("str" : PySem.Str), ("list" : PySem.Str), ("range" : PySem.Str), ("sorted" : PySem.Str), ("dict" : PySem.Str)]
def pss : List (List Str) := [[("rows" : PySem.Str), ("name" : PySem.Str)], [("program" : PySem.Str), ("kind" : PySem.Str), ("case" : PySem.Str)], [("elders" : PySem.Str), ("row" : PySem.Str)], [("elders" : PySem.Str), ("fields" : PySem.Str)], [("elder" : PySem.Str), ("program" : PySem.Str)], [("program" : PySem.Str)], [("one" : PySem.Str), ("other" : PySem.Str)], [("way" : PySem.Str), ("case" : PySem.Str), ("values" : PySem.Str)], [("elder" : PySem.Str), ("program" : PySem.Str)], [("elder" : PySem.Str), ("program" : PySem.Str), ("case" : PySem.Str), ("values" : PySem.Str)], [("programs" : PySem.Str), ("row" : PySem.Str)], [("script" : PySem.Str)], [("cup" : PySem.Str), ("many" : PySem.Str)], [("cup" : PySem.Str), ("things" : PySem.Str)], [("cup" : PySem.Str), ("has" : PySem.Str), ("names" : PySem.Str)], [("cup" : PySem.Str), ("kind" : PySem.Str)], [("cup" : PySem.Str), ("taken" : PySem.Str)], [("cup" : PySem.Str), ("taken" : PySem.Str), ("kinds" : PySem.Str), ("has" : PySem.Str), ("is_old" : PySem.Str)], [("cup" : PySem.Str), ("name" : PySem.Str), ("kinds" : PySem.Str), ("has" : PySem.Str)], [("cup" : PySem.Str)], [("kind" : PySem.Str)], [("made" : PySem.Str)], [("cup" : PySem.Str), ("rows" : PySem.Str)], [("cup" : PySem.Str), ("rows" : PySem.Str), ("most" : PySem.Str)], [("cup" : PySem.Str), ("made" : PySem.Str)], [("cup" : PySem.Str), ("many" : PySem.Str)], [("made" : PySem.Str)], [("cup" : PySem.Str), ("fields" : PySem.Str)], [("fields" : PySem.Str), ("values" : PySem.Str)], [("chain" : PySem.Str)], [("cup" : PySem.Str), ("chain" : PySem.Str), ("programs" : PySem.Str)], [("script" : PySem.Str)]]
def cfa : List He.Fa := []
def fa : List He.Fa := fnn.map .glo ++ (free.map .free ++ cfa)
abbrev R : PySem.W.OpenRow := PySem.W.OpenLaw.row PySem.Challenge.rw_persisthall_k56_whole_ways_together
abbrev ex (K : PySem.W.Frag) : Bool := Mn.cnB K cn cs
abbrev hk : PySem.W.Hook := Mn.hookE 5 fa fn ex
def ob (s : PySem.W.SharedT) : Mn.AlE := Mn.obsE 5 fa fn ex (HandSHeadRun.getT s)
theorem ob_eq (s : PySem.W.SharedT) : ob s = hk.obs s.abs := Mn.obsE_eq (HandSHeadRun.getT_eq s)
def loose : List PySem.Str := [("named" : PySem.Str), ("fields_in" : PySem.Str), ("source_in" : PySem.Str), ("sources_between" : PySem.Str), ("way_between" : PySem.Str), ("still_way" : PySem.Str), ("way_after" : PySem.Str), ("by_way" : PySem.Str), ("root_way" : PySem.Str), ("values_on" : PySem.Str), ("brought" : PySem.Str), ("_law_cup" : PySem.Str), ("_law_roll" : PySem.Str), ("_law_some" : PySem.Str), ("_law_type" : PySem.Str), ("_law_constant" : PySem.Str), ("_law_free" : PySem.Str), ("_law_field" : PySem.Str), ("_law_case" : PySem.Str), ("_law_first" : PySem.Str), ("_law_exp" : PySem.Str), ("_law_program" : PySem.Str), ("_law_mixed" : PySem.Str), ("_law_kept" : PySem.Str), ("_law_next" : PySem.Str), ("_law_chain" : PySem.Str), ("_law_cases" : PySem.Str), ("_law_row_of" : PySem.Str), ("_law_stepped" : PySem.Str), ("_law_traced" : PySem.Str), ("_law_together_right" : PySem.Str)]
theorem run (w : World) : HandSHeadRun.RunEq R (PySem.W.view R.prog [34]) hk ob 6000 loose w := by
  intro os
  kernel_rfl
theorem a0 : DefOk cn fnn free "named" [("rows" : PySem.Str), ("name" : PySem.Str)] d0 f_named := ⟨rfl, ⟨[("rows" : PySem.Str), ("name" : PySem.Str), ("row" : PySem.Str)], ⟨rfl, rfl, rfl, by decide +kernel, rfl, by decide +kernel, by decide +kernel⟩, rfl, rfl, rfl, rfl, by decide +kernel⟩, fun _ _ _ _ _ _ us hl => match us, hl with | [_, _], _ => rfl⟩
theorem a1 : DefOk cn fnn free "fields_in" [("program" : PySem.Str), ("kind" : PySem.Str), ("case" : PySem.Str)] d1 f_fields_in := ⟨rfl, ⟨[("program" : PySem.Str), ("kind" : PySem.Str), ("case" : PySem.Str), ("found" : PySem.Str), ("held" : PySem.Str)], ⟨rfl, rfl, rfl, by decide +kernel, rfl, by decide +kernel, by decide +kernel⟩, rfl, rfl, rfl, rfl, by decide +kernel⟩, fun _ _ _ _ _ _ us hl => match us, hl with | [_, _, _], _ => rfl⟩
theorem a2 : DefOk cn fnn free "source_in" [("elders" : PySem.Str), ("row" : PySem.Str)] d2 f_source_in := ⟨rfl, ⟨[("elders" : PySem.Str), ("row" : PySem.Str), ("names" : PySem.Str), ("name" : PySem.Str), ("elder" : PySem.Str)], ⟨rfl, rfl, rfl, by decide +kernel, rfl, by decide +kernel, by decide +kernel⟩, rfl, rfl, rfl, rfl, by decide +kernel⟩, fun _ _ _ _ _ _ us hl => match us, hl with | [_, _], _ => rfl⟩
theorem a3 : DefOk cn fnn free "sources_between" [("elders" : PySem.Str), ("fields" : PySem.Str)] d3 f_sources_between := ⟨rfl, ⟨[("elders" : PySem.Str), ("fields" : PySem.Str), ("found" : PySem.Str), ("field" : PySem.Str), ("source" : PySem.Str)], ⟨rfl, rfl, rfl, by decide +kernel, rfl, by decide +kernel, by decide +kernel⟩, rfl, rfl, rfl, rfl, by decide +kernel⟩, fun _ _ _ _ _ _ us hl => match us, hl with | [_, _], _ => rfl⟩
theorem a4 : DefOk cn fnn free "way_between" [("elder" : PySem.Str), ("program" : PySem.Str)] d4 f_way_between := ⟨rfl, ⟨[("elder" : PySem.Str), ("program" : PySem.Str), ("found" : PySem.Str), ("kind" : PySem.Str), ("case" : PySem.Str)], ⟨rfl, rfl, rfl, by decide +kernel, rfl, by decide +kernel, by decide +kernel⟩, rfl, rfl, rfl, rfl, by decide +kernel⟩, fun _ _ _ _ _ _ us hl => match us, hl with | [_, _], _ => rfl⟩
theorem a5 : DefOk cn fnn free "still_way" [("program" : PySem.Str)] d5 f_still_way := ⟨rfl, ⟨[("program" : PySem.Str), ("found" : PySem.Str), ("kind" : PySem.Str), ("case" : PySem.Str), ("index" : PySem.Str)], ⟨rfl, rfl, rfl, by decide +kernel, rfl, by decide +kernel, by decide +kernel⟩, rfl, rfl, rfl, rfl, by decide +kernel⟩, fun _ _ _ _ _ _ us hl => match us, hl with | [_], _ => rfl⟩
theorem a6 : DefOk cn fnn free "way_after" [("one" : PySem.Str), ("other" : PySem.Str)] d6 f_way_after := ⟨rfl, ⟨[("one" : PySem.Str), ("other" : PySem.Str), ("later" : PySem.Str), ("found" : PySem.Str), ("case" : PySem.Str), ("sources" : PySem.Str), ("source" : PySem.Str)], ⟨rfl, rfl, rfl, by decide +kernel, rfl, by decide +kernel, by decide +kernel⟩, rfl, rfl, rfl, rfl, by decide +kernel⟩, fun _ _ _ _ _ _ us hl => match us, hl with | [_, _], _ => rfl⟩
theorem a7 : DefOk cn fnn free "by_way" [("way" : PySem.Str), ("case" : PySem.Str), ("values" : PySem.Str)] d7 f_by_way := ⟨rfl, ⟨[("way" : PySem.Str), ("case" : PySem.Str), ("values" : PySem.Str), ("sources" : PySem.Str), ("source" : PySem.Str)], ⟨rfl, rfl, rfl, by decide +kernel, rfl, by decide +kernel, by decide +kernel⟩, rfl, rfl, rfl, rfl, by decide +kernel⟩, fun _ _ _ _ _ _ us hl => match us, hl with | [_, _, _], _ => rfl⟩
theorem a8 : DefOk cn fnn free "root_way" [("elder" : PySem.Str), ("program" : PySem.Str)] d8 f_root_way := ⟨rfl, ⟨[("elder" : PySem.Str), ("program" : PySem.Str), ("root" : PySem.Str)], ⟨rfl, rfl, rfl, by decide +kernel, rfl, by decide +kernel, by decide +kernel⟩, rfl, rfl, rfl, rfl, by decide +kernel⟩, fun _ _ _ _ _ _ us hl => match us, hl with | [_, _], _ => rfl⟩
theorem a9 : DefOk cn fnn free "values_on" [("elder" : PySem.Str), ("program" : PySem.Str), ("case" : PySem.Str), ("values" : PySem.Str)] d9 f_values_on := ⟨rfl, ⟨[("elder" : PySem.Str), ("program" : PySem.Str), ("case" : PySem.Str), ("values" : PySem.Str), ("index" : PySem.Str)], ⟨rfl, rfl, rfl, by decide +kernel, rfl, by decide +kernel, by decide +kernel⟩, rfl, rfl, rfl, rfl, by decide +kernel⟩, fun _ _ _ _ _ _ us hl => match us, hl with | [_, _, _, _], _ => rfl⟩
theorem a10 : DefOk cn fnn free "brought" [("programs" : PySem.Str), ("row" : PySem.Str)] d10 f_brought := ⟨rfl, ⟨[("programs" : PySem.Str), ("row" : PySem.Str), ("number" : PySem.Str), ("case" : PySem.Str), ("version" : PySem.Str), ("values" : PySem.Str), ("later" : PySem.Str)], ⟨rfl, rfl, rfl, by decide +kernel, rfl, by decide +kernel, by decide +kernel⟩, rfl, rfl, rfl, rfl, by decide +kernel⟩, fun _ _ _ _ _ _ us hl => match us, hl with | [_, _], _ => rfl⟩
theorem a11 : DefOk cn fnn free "_law_cup" [("script" : PySem.Str)] d11 f__law_cup := ⟨rfl, ⟨[("script" : PySem.Str), ("cell" : PySem.Str)], ⟨rfl, rfl, rfl, by decide +kernel, rfl, by decide +kernel, by decide +kernel⟩, rfl, rfl, rfl, rfl, by decide +kernel⟩, fun _ _ _ _ _ _ us hl => match us, hl with | [_], _ => rfl⟩
theorem a12 : DefOk cn fnn free "_law_roll" [("cup" : PySem.Str), ("many" : PySem.Str)] d12 f__law_roll := ⟨rfl, ⟨[("cup" : PySem.Str), ("many" : PySem.Str), ("found" : PySem.Str), ("deep" : PySem.Str)], ⟨rfl, rfl, rfl, by decide +kernel, rfl, by decide +kernel, by decide +kernel⟩, rfl, rfl, rfl, rfl, by decide +kernel⟩, fun _ _ _ _ _ _ us hl => match us, hl with | [_, _], _ => rfl⟩
theorem a13 : DefOk cn fnn free "_law_some" [("cup" : PySem.Str), ("things" : PySem.Str)] d13 f__law_some := ⟨rfl, ⟨[("cup" : PySem.Str), ("things" : PySem.Str)], ⟨rfl, rfl, rfl, by decide +kernel, rfl, by decide +kernel, by decide +kernel⟩, rfl, rfl, rfl, rfl, by decide +kernel⟩, fun _ _ _ _ _ _ us hl => match us, hl with | [_, _], _ => rfl⟩
theorem a14 : DefOk cn fnn free "_law_type" [("cup" : PySem.Str), ("has" : PySem.Str), ("names" : PySem.Str)] d14 f__law_type := ⟨rfl, ⟨[("cup" : PySem.Str), ("has" : PySem.Str), ("names" : PySem.Str), ("way" : PySem.Str), ("name" : PySem.Str), ("other" : PySem.Str)], ⟨rfl, rfl, rfl, by decide +kernel, rfl, by decide +kernel, by decide +kernel⟩, rfl, rfl, rfl, rfl, by decide +kernel⟩, fun _ _ _ _ _ _ us hl => match us, hl with | [_, _, _], _ => rfl⟩
theorem a15 : DefOk cn fnn free "_law_constant" [("cup" : PySem.Str), ("kind" : PySem.Str)] d15 f__law_constant := ⟨rfl, ⟨[("cup" : PySem.Str), ("kind" : PySem.Str)], ⟨rfl, rfl, rfl, by decide +kernel, rfl, by decide +kernel, by decide +kernel⟩, rfl, rfl, rfl, rfl, by decide +kernel⟩, fun _ _ _ _ _ _ us hl => match us, hl with | [_, _], _ => rfl⟩
theorem a16 : DefOk cn fnn free "_law_free" [("cup" : PySem.Str), ("taken" : PySem.Str)] d16 f__law_free := ⟨rfl, ⟨[("cup" : PySem.Str), ("taken" : PySem.Str), ("name" : PySem.Str)], ⟨rfl, rfl, rfl, by decide +kernel, rfl, by decide +kernel, by decide +kernel⟩, rfl, rfl, rfl, rfl, by decide +kernel⟩, fun _ _ _ _ _ _ us hl => match us, hl with | [_, _], _ => rfl⟩
theorem a17 : DefOk cn fnn free "_law_field" [("cup" : PySem.Str), ("taken" : PySem.Str), ("kinds" : PySem.Str), ("has" : PySem.Str), ("is_old" : PySem.Str)] d17 f__law_field := ⟨rfl, ⟨[("cup" : PySem.Str), ("taken" : PySem.Str), ("kinds" : PySem.Str), ("has" : PySem.Str), ("is_old" : PySem.Str), ("kind" : PySem.Str), ("constant" : PySem.Str)], ⟨rfl, rfl, rfl, by decide +kernel, rfl, by decide +kernel, by decide +kernel⟩, rfl, rfl, rfl, rfl, by decide +kernel⟩, fun _ _ _ _ _ _ us hl => match us, hl with | [_, _, _, _, _], _ => rfl⟩
theorem a18 : DefOk cn fnn free "_law_case" [("cup" : PySem.Str), ("name" : PySem.Str), ("kinds" : PySem.Str), ("has" : PySem.Str)] d18 f__law_case := ⟨rfl, ⟨[("cup" : PySem.Str), ("name" : PySem.Str), ("kinds" : PySem.Str), ("has" : PySem.Str), ("fields" : PySem.Str), ("turn" : PySem.Str), ("field" : PySem.Str)], ⟨rfl, rfl, rfl, by decide +kernel, rfl, by decide +kernel, by decide +kernel⟩, rfl, rfl, rfl, rfl, by decide +kernel⟩, fun _ _ _ _ _ _ us hl => match us, hl with | [_, _, _, _], _ => rfl⟩
theorem a19 : DefOk cn fnn free "_law_first" [("cup" : PySem.Str)] d19 f__law_first := ⟨rfl, ⟨[("cup" : PySem.Str), ("many" : PySem.Str), ("kinds" : PySem.Str), ("types" : PySem.Str), ("name" : PySem.Str), ("has" : PySem.Str), ("cases" : PySem.Str), ("index" : PySem.Str), ("roots" : PySem.Str), ("turn" : PySem.Str), ("root" : PySem.Str)], ⟨rfl, rfl, rfl, by decide +kernel, rfl, by decide +kernel, by decide +kernel⟩, rfl, rfl, rfl, rfl, by decide +kernel⟩, fun _ _ _ _ _ _ us hl => match us, hl with | [_], _ => rfl⟩
theorem a20 : DefOk cn fnn free "_law_exp" [("kind" : PySem.Str)] d20 f__law_exp := ⟨rfl, ⟨[("kind" : PySem.Str)], ⟨rfl, rfl, rfl, by decide +kernel, rfl, by decide +kernel, by decide +kernel⟩, rfl, rfl, rfl, rfl, by decide +kernel⟩, fun _ _ _ _ _ _ us hl => match us, hl with | [_], _ => rfl⟩
theorem a21 : DefOk cn fnn free "_law_program" [("made" : PySem.Str)] d21 f__law_program := ⟨rfl, ⟨[("made" : PySem.Str), ("types" : PySem.Str), ("name" : PySem.Str), ("has" : PySem.Str), ("cases" : PySem.Str), ("rows" : PySem.Str), ("case" : PySem.Str), ("root" : PySem.Str), ("field" : PySem.Str)], ⟨rfl, rfl, rfl, by decide +kernel, rfl, by decide +kernel, by decide +kernel⟩, rfl, rfl, rfl, rfl, by decide +kernel⟩, fun _ _ _ _ _ _ us hl => match us, hl with | [_], _ => rfl⟩
theorem a22 : DefOk cn fnn free "_law_mixed" [("cup" : PySem.Str), ("rows" : PySem.Str)] d22 f__law_mixed := ⟨rfl, ⟨[("cup" : PySem.Str), ("rows" : PySem.Str), ("found" : PySem.Str), ("at" : PySem.Str)], ⟨rfl, rfl, rfl, by decide +kernel, rfl, by decide +kernel, by decide +kernel⟩, rfl, rfl, rfl, rfl, by decide +kernel⟩, fun _ _ _ _ _ _ us hl => match us, hl with | [_, _], _ => rfl⟩
theorem a23 : DefOk cn fnn free "_law_kept" [("cup" : PySem.Str), ("rows" : PySem.Str), ("most" : PySem.Str)] d23 f__law_kept := ⟨rfl, ⟨[("cup" : PySem.Str), ("rows" : PySem.Str), ("most" : PySem.Str), ("found" : PySem.Str), ("names" : PySem.Str), ("index" : PySem.Str), ("name" : PySem.Str), ("taken" : PySem.Str), ("way" : PySem.Str), ("constant" : PySem.Str), ("row" : PySem.Str)], ⟨rfl, rfl, rfl, by decide +kernel, rfl, by decide +kernel, by decide +kernel⟩, rfl, rfl, rfl, rfl, by decide +kernel⟩, fun _ _ _ _ _ _ us hl => match us, hl with | [_, _, _], _ => rfl⟩
theorem a24 : DefOk cn fnn free "_law_next" [("cup" : PySem.Str), ("made" : PySem.Str)] d24 f__law_next := ⟨rfl, ⟨[("cup" : PySem.Str), ("made" : PySem.Str), ("kinds" : PySem.Str), ("types" : PySem.Str), ("name" : PySem.Str), ("has" : PySem.Str), ("cases" : PySem.Str), ("rows" : PySem.Str), ("case" : PySem.Str), ("fields" : PySem.Str), ("taken" : PySem.Str), ("names" : PySem.Str), ("letter" : PySem.Str), ("roots" : PySem.Str), ("kind" : PySem.Str), ("root" : PySem.Str), ("field" : PySem.Str)], ⟨rfl, rfl, rfl, by decide +kernel, rfl, by decide +kernel, by decide +kernel⟩, rfl, rfl, rfl, rfl, by decide +kernel⟩, fun _ _ _ _ _ _ us hl => match us, hl with | [_, _], _ => rfl⟩
theorem a25 : DefOk cn fnn free "_law_chain" [("cup" : PySem.Str), ("many" : PySem.Str)] d25 f__law_chain := ⟨rfl, ⟨[("cup" : PySem.Str), ("many" : PySem.Str), ("found" : PySem.Str), ("turn" : PySem.Str)], ⟨rfl, rfl, rfl, by decide +kernel, rfl, by decide +kernel, by decide +kernel⟩, rfl, rfl, rfl, rfl, by decide +kernel⟩, fun _ _ _ _ _ _ us hl => match us, hl with | [_, _], _ => rfl⟩
theorem a26 : DefOk cn fnn free "_law_cases" [("made" : PySem.Str)] d26 f__law_cases := ⟨rfl, ⟨[("made" : PySem.Str), ("found" : PySem.Str), ("name" : PySem.Str), ("has" : PySem.Str), ("cases" : PySem.Str), ("case" : PySem.Str)], ⟨rfl, rfl, rfl, by decide +kernel, rfl, by decide +kernel, by decide +kernel⟩, rfl, rfl, rfl, rfl, by decide +kernel⟩, fun _ _ _ _ _ _ us hl => match us, hl with | [_], _ => rfl⟩
theorem a27 : DefOk cn fnn free "_law_row_of" [("cup" : PySem.Str), ("fields" : PySem.Str)] d27 f__law_row_of := ⟨rfl, ⟨[("cup" : PySem.Str), ("fields" : PySem.Str), ("found" : PySem.Str), ("field" : PySem.Str)], ⟨rfl, rfl, rfl, by decide +kernel, rfl, by decide +kernel, by decide +kernel⟩, rfl, rfl, rfl, rfl, by decide +kernel⟩, fun _ _ _ _ _ _ us hl => match us, hl with | [_, _], _ => rfl⟩
theorem a28 : DefOk cn fnn free "_law_stepped" [("fields" : PySem.Str), ("values" : PySem.Str)] d28 f__law_stepped := ⟨rfl, ⟨[("fields" : PySem.Str), ("values" : PySem.Str), ("field" : PySem.Str)], ⟨rfl, rfl, rfl, by decide +kernel, rfl, by decide +kernel, by decide +kernel⟩, rfl, rfl, rfl, rfl, by decide +kernel⟩, fun _ _ _ _ _ _ us hl => match us, hl with | [_, _], _ => rfl⟩
theorem a29 : DefOk cn fnn free "_law_traced" [("chain" : PySem.Str)] d29 f__law_traced := ⟨rfl, ⟨[("chain" : PySem.Str), ("found" : PySem.Str), ("name" : PySem.Str), ("sources" : PySem.Str), ("field" : PySem.Str), ("place" : PySem.Str), ("source" : PySem.Str)], ⟨rfl, rfl, rfl, by decide +kernel, rfl, by decide +kernel, by decide +kernel⟩, rfl, rfl, rfl, rfl, by decide +kernel⟩, fun _ _ _ _ _ _ us hl => match us, hl with | [_], _ => rfl⟩
theorem a30 : DefOk cn fnn free "_law_together_right" [("cup" : PySem.Str), ("chain" : PySem.Str), ("programs" : PySem.Str)] d30 f__law_together_right := ⟨rfl, ⟨[("cup" : PySem.Str), ("chain" : PySem.Str), ("programs" : PySem.Str), ("ways" : PySem.Str), ("whole" : PySem.Str), ("cases" : PySem.Str), ("name" : PySem.Str), ("values" : PySem.Str), ("due" : PySem.Str), ("way" : PySem.Str), ("at" : PySem.Str)], ⟨rfl, rfl, rfl, by decide +kernel, rfl, by decide +kernel, by decide +kernel⟩, rfl, rfl, rfl, rfl, by decide +kernel⟩, fun _ _ _ _ _ _ us hl => match us, hl with | [_, _, _], _ => rfl⟩
theorem a31 : DefOk cn fnn free "law" [("script" : PySem.Str)] d31 f_law := ⟨rfl, ⟨[("script" : PySem.Str), ("cup" : PySem.Str), ("turn" : PySem.Str), ("chain" : PySem.Str), ("rows" : PySem.Str), ("programs" : PySem.Str), ("whole" : PySem.Str), ("fields" : PySem.Str), ("made" : PySem.Str)], ⟨rfl, rfl, rfl, by decide +kernel, rfl, by decide +kernel, by decide +kernel⟩, rfl, rfl, rfl, rfl, by decide +kernel⟩, fun _ _ _ _ _ _ us hl => match us, hl with | [_], _ => rfl⟩
theorem al : Alls cn fnn free fnn pss fn fns := (.cons a0 (.cons a1 (.cons a2 (.cons a3 (.cons a4 (.cons a5 (.cons a6 (.cons a7 (.cons a8 (.cons a9 (.cons a10 (.cons a11 (.cons a12 (.cons a13 (.cons a14 (.cons a15 (.cons a16 (.cons a17 (.cons a18 (.cons a19 (.cons a20 (.cons a21 (.cons a22 (.cons a23 (.cons a24 (.cons a25 (.cons a26 (.cons a27 (.cons a28 (.cons a29 (.cons a30 (.cons a31 .nil))))))))))))))))))))))))))))))))
end Ak56
open PySem PySem.W PySem.Calls PyProof.Rows
theorem Ak56.holds_of (law_ok : ∀ ns : List Int, ns.length ≤ 63 → ∃ S', Mn.callN Ak56.fns Ak56.cs 1000000 200 31 [.lst (ns.map Mn.PV.int)] [] = .ok (.bl true) S') : PySem.Challenge.rw_persisthall_k56_whole_ways_together.Holds := by
  w_on; o_law
  refine HandSHeadRun.head_any (r := OpenLaw.row PySem.Challenge.rw_persisthall_k56_whole_ways_together) (q := view (OpenLaw.row PySem.Challenge.rw_persisthall_k56_whole_ways_together).prog [34]) (H := Ak56.hk) (ob := Ak56.ob) (M := 6000) (loose := Ak56.loose) (d := HandSHeadRun.topDef (OpenLaw.row PySem.Challenge.rw_persisthall_k56_whole_ways_together).prog 34) (kwd := []) Ak56.ob_eq
    (by kernel_rfl) (fun s => by kernel_rfl) Ak56.run (by kernel_rfl) (by kernel_rfl) (by kernel_rfl) (by rfl) (by first | assumption | decide +kernel) (by decide +kernel) ⟨rfl, rfl, rfl, rfl, rfl, by decide +kernel⟩ ?hw ?hc
  case hw => w_witness2
  case hc =>
    refine Mn.walk_ofF (l := PySem.Challenge.rw_persisthall_k56_whole_ways_together) (n := 63) (k := 200) (x := "script") rfl (by decide) (by kernel_rfl) ⟨rfl, by decide, by decide⟩ ?F
    intro w mg f h Y G hmg0
    obtain ⟨K, KX, c, cx⟩ := Y
    have hmg : mg ("law" : PySem.Str) = some (.ref f) := by
      have e : (HandSHeadRun.topDef (OpenLaw.row PySem.Challenge.rw_persisthall_k56_whole_ways_together).prog 34).name = ("law" : PySem.Str) := by kernel_rfl
      rw [← e]
      exact hmg0
    exact Mn.law_end (P := (PySem.Challenge.rw_persisthall_k56_whole_ways_together).prog) (w := w) (li := 31) (cn := Ak56.cn) (fnn := Ak56.fnn) (free := Ak56.free) (pss := Ak56.pss) (wt := 1000000) KX G hmg c rfl rfl (fun x hx => List.mem_append_left _ (List.mem_map_of_mem hx)) (fun x hx => List.mem_append_right _ (List.mem_append_left _ (List.mem_map_of_mem hx))) (Mn.cnB_ok KX G cx) Ak56.al law_ok
end
theorem PySem.Challenge.cw_persisthall_k56_whole_ways_together_holds : PySem.Challenge.rw_persisthall_k56_whole_ways_together.Holds := by
  exact Ak56.holds_of Ak56.law_ok
