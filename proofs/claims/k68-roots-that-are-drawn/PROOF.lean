import PyProof.Rows.All
import Wide.All
import OpenK.AllK
import Wide.FinOn
import HandS.ForMost
import HandS.Wide
import HandS.Flow
import HandS.Deep
import HandS.DeepEq
import HandS.Zip
import HandS.Conv
import HandS.TupAny
import HandS.SortInts
import HandS.Rev
import HandS.Gcd
import HandS.IsInst
import HandS.Sort
import HandS.NoneIn
import HandS.Style
import HandS.Walk
import HandS.SetFor
import KE.DataFind
import KE.GoesEnum
import HandS.Defaults
import HandS.Ends
import HandS.EndBits
import HandS.HeadEnd
import KE.KStateDown
import HandS.More
import HandS.Words
import HandS.WordsExc
import HandS.Head0
import HandS.Head1
import HandS.Head2
import HandS.HeadHook1
import HandS.HeadHook2
import HandS.HeadHook3
import HandS.HeadHook4
import HandS.Head3
import PySem.Challenge.RW_threecorners_k68_whole_roots_that_are_dr
set_option Elab.async false
set_option linter.all false
set_option maxRecDepth 100000
set_option maxHeartbeats 0
/-! ZEv: values as trees, the small language, its evaluator. -/
namespace Zz
open PySem

/-- a value as a tree; scr: the script; st: the draws' state -/
inductive D where
  | non | bl (b : Bool) | int (i : Int) | str (x : Str) | lst (xs : List D) | tup (xs : List D) | scr | st

inductive Op where | add | sub | mul | fdiv | mod | pow
  deriving DecidableEq
inductive Cop where | eq | ne | lt | le | gt | ge | is | isn | mem | nmem
  deriving DecidableEq
inductive Ty where | list | tuple | str | bool | int
  deriving DecidableEq
inductive Bi where
  | len | abs | int1 | max2 | min2 | gcd | sum | list | tuple | sorted | any | all | lenset | range | enum | zip | rev
  deriving DecidableEq

inductive T where
  | var (i : Nat) | tup (ts : List T)

inductive E where
  | var (i : Nat)
  | lit (d : D)
  | op (o : Op) (a b : E)
  | neg (a : E)
  | cmp (a : E) (os : List Cop) (bs : List E)
  | and (es : List E)
  | or (es : List E)
  | not (a : E)
  | ite (c a b : E)
  | tup (es : List E)
  | lst (es : List E)
  | ix (a i : E)
  | sl (a : E) (lo hi : List E)
  | bi (b : Bi) (es : List E)
  | isi (ts : List Ty) (e : E)
  | call (f : Nat) (sc : Bool) (es : List E)
  | comp (own : List Nat) (t : T) (it : E) (ifs : List E) (elt : E)

inductive S where
  | asg (t : T) (e : E)
  | sto (x : Nat) (i e : E)
  | stS (x : Nat) (i e : E)
  | app (x : Nat) (e : E)
  | pop (x : Nat)
  | rem (x : Nat) (e : E)
  | ifs (c : E) (a b : List S)
  | whl (c : E) (b : List S)
  | for_ (t : T) (it : E) (b : List S)
  | ret (e : E)
  | pass

abbrev Env := List (Option D)

/-! ### operations -/
def small64 (i : Int) : Bool := decide (i.natAbs < 18446744073709551616)
def mulOk (i j : Int) : Bool := small64 i || small64 j || decide (i.natAbs.log2 + j.natAbs.log2 < 1000000)
def divI (i j : Int) : Int := if 0 < j then i / j else i.fdiv j
def modI (i j : Int) : Int := if 0 < j then i % j else i.fmod j
def divOk (j : Int) : Bool := decide (j ≠ 0) && decide (j.natAbs.log2 < 9000)
def lenOk (n : Nat) : Bool := decide (n ≤ 16777216)
def powOk (i j : Int) : Bool := decide (0 ≤ j) && decide (j ≤ 1000000) && small64 i

def opD : Op → D → D → Option D
  | .add, .int i, .int j => some (.int (i + j))
  | .add, .lst xs, .lst ys => if lenOk (xs.length + ys.length) then some (.lst (xs ++ ys)) else none
  | .add, .tup xs, .tup ys => if lenOk (xs.length + ys.length) then some (.tup (xs ++ ys)) else none
  | .sub, .int i, .int j => some (.int (i - j))
  | .mul, .int i, .int j => if mulOk i j then some (.int (i * j)) else none
  | .mul, .lst xs, .int k => if decide (-9223372036854775808 ≤ k) && decide (k < 9223372036854775808) && lenOk (xs.length * k.toNat) then some (.lst (List.replicate k.toNat xs).flatten) else none
  | .fdiv, .int i, .int j => if divOk j then some (.int (divI i j)) else none
  | .mod, .int i, .int j => if j ≠ 0 then some (.int (modI i j)) else none
  | .pow, .int i, .int j => if powOk i j then some (.int (i ^ j.toNat)) else none
  | _, _, _ => none

mutual
def toPy : D → Option PyData
  | .non => some .none
  | .bl b => some (.bool b)
  | .int i => some (.int i)
  | .str x => some (.str x)
  | .lst xs => match toPys xs with | some ys => some (.list ys) | none => none
  | .tup xs => match toPys xs with | some ys => some (.tuple ys) | none => none
  | .scr => none
  | .st => none
def toPys : List D → Option (List PyData)
  | [] => some []
  | x :: xs => match toPy x, toPys xs with | some y, some ys => some (y :: ys) | _, _ => none
end

def shp (d : PyData) : Bool := d.canLay0 && decide (d.depth ≤ 64)
def eqD (a b : D) : Option Bool :=
  match a, b with
  | .int i, .int j => some (i == j)
  | a, b => match toPy a, toPy b with
    | some x, some y => if shp x && shp y then some (PyData.eqv x y) else none
    | _, _ => none

def memD (a : D) : D → Option Bool
  | .lst xs => match toPy a, toPys xs with
    | some x, some ys => if shp x && shp (.list ys) then some (ys.any fun z => PyData.eqv z x) else none
    | _, _ => none
  | _ => none

/-- x.remove(v) -/
def remD (a : D) (xs : List D) : Option (List D) := match toPy a, toPys xs with
  | some x, some ys => if shp x && shp (.list ys) then (match ys.findIdx? (fun z => PyData.eqv z x) with | some j => some (xs.eraseIdx j) | none => none) else none
  | _, _ => none

def isN : D → Bool
  | .non => true
  | _ => false

def cmpD : Cop → D → D → Option Bool
  | .eq, a, b => eqD a b
  | .ne, a, b => (eqD a b).map (!·)
  | .lt, .int i, .int j => some (decide (i < j))
  | .le, .int i, .int j => some (decide (i ≤ j))
  | .gt, .int i, .int j => some (decide (j < i))
  | .ge, .int i, .int j => some (decide (j ≤ i))
  | .is, a, .non => some (isN a)
  | .isn, a, .non => some (!isN a)
  | .mem, a, b => memD a b
  | .nmem, a, b => (memD a b).map (!·)
  | _, _, _ => none

/-- the place of an index -/
def ixI (n : Nat) (i : Int) : Option Nat := if 0 ≤ i then (if i < n then some i.toNat else none) else if -(n : Int) ≤ i then some (i + n).toNat else none
def at_ (xs : List D) (i : Int) : Option D := (ixI xs.length i).bind fun j => xs[j]?

structure Pr where
  ns : List Int
  W : Nat
  call : Nat → List D → List D → Option (D × List D)

section
variable (P : Pr)

def ixD (m : List D) : D → D → Option D
  | .lst xs, .int i => at_ xs i
  | .tup xs, .int i => at_ xs i
  | .scr, .int i => (ixI P.ns.length i).bind fun j => P.ns[j]?.map D.int
  | .st, .int i => at_ m i
  | _, _ => none

def itemsD : D → Option (List D)
  | .lst xs => some xs
  | .tup xs => some xs
  | .scr => some (P.ns.map D.int)
  | _ => none

def truD : D → Option Bool
  | .non => some false
  | .bl b => some b
  | .int i => some (i != 0)
  | .str x => if lenOk x.length then some ((x.length : Int) != 0) else none
  | .lst xs => some (!xs.isEmpty)
  | .tup xs => some (!xs.isEmpty)
  | .scr => some (!P.ns.isEmpty)
  | .st => none

/-- the ends of a slice -/
def cutIx (n dflt : Nat) : Option Int → Nat
  | none => dflt
  | some i => if 0 ≤ i then min i.toNat n else (i + n).toNat
def cut (xs : List D) (lo hi : Option Int) : List D :=
  let l := cutIx xs.length 0 lo
  let h := cutIx xs.length xs.length hi
  (xs.drop l).take (h - l)
def partD : List D → Option (Option Int)
  | [] => some none
  | [.int i] => some (some i)
  | _ => none
def slD : D → List D → List D → Option D
  | .lst xs, lo, hi => match partD lo, partD hi with | some l, some h => some (.lst (cut xs l h)) | _, _ => none
  | .tup xs, lo, hi => match partD lo, partD hi with | some l, some h => some (.tup (cut xs l h)) | _, _ => none
  | _, _, _ => none

def intsD : List D → Option (List Int)
  | [] => some []
  | .int i :: r => match intsD r with | some js => some (i :: js) | none => none
  | _ :: _ => none
def boolsD : List D → Option (List Bool)
  | [] => some []
  | .bl i :: r => match boolsD r with | some js => some (i :: js) | none => none
  | _ :: _ => none
def insI (x : Int) : List Int → List Int
  | [] => [x]
  | y :: r => if x ≤ y then x :: y :: r else y :: insI x r
def sortI : List Int → List Int
  | [] => []
  | x :: r => insI x (sortI r)
def ddS (acc : List Int) (x : Int) : List Int := if acc.any (· == x) then acc else acc ++ [x]
def ddI (xs : List Int) : List Int := xs.foldl ddS []
def rangeD (lo : Int) : Nat → List D
  | 0 => []
  | n + 1 => .int lo :: rangeD (lo + 1) n
def rangeC (lo c : Int) : Nat → List D
  | 0 => []
  | n + 1 => .int lo :: rangeC (lo + c) c n
def ok62 (i : Int) : Bool := decide (-4611686018427387904 ≤ i) && decide (i < 4611686018427387904)
/-- the turns of range(i, j, c) -/
def turns (i j c : Int) : Nat := if 0 < c then (if i < j then ((j - i - 1) / c + 1).toNat else 0) else (if j < i then ((i - j - 1) / (-c) + 1).toNat else 0)
def enumD (k : Int) : List D → List D
  | [] => []
  | x :: r => .tup [.int k, x] :: enumD (k + 1) r
def zipD : List D → List D → List D
  | x :: xs, y :: ys => .tup [x, y] :: zipD xs ys
  | _, _ => []

def biD : Bi → List D → Option D
  | .len, [x] => match itemsD P x with | some xs => some (.int xs.length) | none => none
  | .abs, [.int i] => some (.int (if i < 0 then -i else i))
  | .int1, [.int i] => some (.int i)
  | .int1, [.bl b] => some (.int (if b = true then 1 else 0))
  | .max2, [.int i, .int j] => some (.int (if j > i then j else i))
  | .min2, [.int i, .int j] => some (.int (if j < i then j else i))
  | .gcd, [.int i, .int j] => some (.int (Nat.gcd i.natAbs j.natAbs))
  | .sum, [.lst xs] => match intsD xs with | some is => some (.int is.sum) | none => none
  | .list, [x] => match itemsD P x with | some xs => some (.lst xs) | none => none
  | .tuple, [x] => match itemsD P x with | some xs => some (.tup xs) | none => none
  | .sorted, [.lst xs] => match intsD xs with | some is => some (.lst ((sortI is).map D.int)) | none => none
  | .any, [.lst xs] => match boolsD xs with | some bs => some (.bl (bs.any id)) | none => (match intsD xs with | some is => some (.bl (is.any fun i => i != 0)) | none => none)
  | .all, [.lst xs] => match boolsD xs with | some bs => some (.bl (bs.all id)) | none => none
  | .lenset, [.lst xs] => match intsD xs with | some is => if decide (is.length ≤ 4000) then some (.int (ddI is).length) else none | none => none
  | .range, [.int j] => if ok62 j && lenOk j.toNat then some (.lst (rangeD 0 j.toNat)) else none
  | .range, [.int i, .int j] => if ok62 i && ok62 j && lenOk (j - i).toNat then some (.lst (rangeD i (j - i).toNat)) else none
  | .range, [.int i, .int j, .int c] => if decide (c ≠ 0) && decide (c.natAbs < 1073741824) && Builtin.Range.small i j c && lenOk (turns i j c) then some (.lst (rangeC i c (turns i j c))) else none
  | .enum, [.lst xs] => some (.lst (enumD 0 xs))
  | .enum, [.tup xs] => some (.lst (enumD 0 xs))
  | .zip, [.lst xs, .lst ys] => some (.lst (zipD xs ys))
  | .zip, [.tup xs, .tup ys] => some (.lst (zipD xs ys))
  | .rev, [.lst xs] => some (.lst xs.reverse)
  | .rev, [.tup xs] => some (.lst xs.reverse)
  | _, _ => none

def isT : Ty → D → Bool
  | .list, .lst _ => true
  | .list, .scr => true
  | .list, .st => true
  | .tuple, .tup _ => true
  | .str, .str _ => true
  | .bool, .bl _ => true
  | .int, .bl _ => true
  | .int, .int _ => true
  | _, _ => false

/-! ### names -/
def getE (e : Env) (i : Nat) : Option D := match e[i]? with | some (some d) => some d | _ => none
def wipeE (e : Env) : List Nat → Env
  | [] => e
  | i :: is => (wipeE e is).set i none
mutual
def asgT : T → D → Env → Option Env
  | .var i, d, e => if i < e.length then some (e.set i (some d)) else none
  | .tup ts, .tup xs, e => asgTs ts xs e
  | .tup ts, .lst xs, e => asgTs ts xs e
  | _, _, _ => none
def asgTs : List T → List D → Env → Option Env
  | [], [], e => some e
  | t :: ts, x :: xs, e => match asgT t x e with | some e1 => asgTs ts xs e1 | none => none
  | _, _, _ => none
end

def lcGo (f : D → List D → Option (List D × List D)) : List D → List D → Option (List D × List D)
  | [], m => some ([], m)
  | x :: xs, m => match f x m with
    | some (ys, m1) => match lcGo f xs m1 with
      | some (zs, m2) => some (ys ++ zs, m2)
      | none => none
    | none => none

mutual
def evE : E → Env → List D → Option (D × List D)
  | .var i, e, m => match getE e i with | some d => some (d, m) | none => none
  | .lit d, _, m => some (d, m)
  | .op o a b, e, m => match evE a e m with
    | some (x, m1) => match evE b e m1 with
      | some (y, m2) => match opD o x y with | some z => some (z, m2) | none => none
      | none => none
    | none => none
  | .neg a, e, m => match evE a e m with | some (.int i, m1) => some (.int (-i), m1) | _ => none
  | .cmp a os bs, e, m => match evE a e m with
    | some (x, m1) => match evCh x os bs e m1 with | some (b, m2) => some (.bl b, m2) | none => none
    | none => none
  | .and es, e, m => evAnd es e m
  | .or es, e, m => evOr es e m
  | .not a, e, m => match evE a e m with
    | some (x, m1) => match truD P x with | some b => some (.bl (!b), m1) | none => none
    | none => none
  | .ite c a b, e, m => match evE c e m with
    | some (x, m1) => match truD P x with
      | some true => evE a e m1
      | some false => evE b e m1
      | none => none
    | none => none
  | .tup es, e, m => match evEs es e m with | some (xs, m1) => if lenOk xs.length then some (.tup xs, m1) else none | none => none
  | .lst es, e, m => match evEs es e m with | some (xs, m1) => if lenOk xs.length then some (.lst xs, m1) else none | none => none
  | .ix a i, e, m => match evE a e m with
    | some (x, m1) => match evE i e m1 with
      | some (y, m2) => match ixD P m2 x y with | some z => some (z, m2) | none => none
      | none => none
    | none => none
  | .sl a lo hi, e, m => match evE a e m with
    | some (x, m1) => match evEs lo e m1 with
      | some (l, m2) => match evEs hi e m2 with
        | some (h, m3) => match slD x l h with | some z => some (z, m3) | none => none
        | none => none
      | none => none
    | none => none
  | .bi b es, e, m => match evEs es e m with
    | some (xs, m1) => match biD P b xs with | some z => some (z, m1) | none => none
    | none => none
  | .isi ts a, e, m => match evE a e m with | some (x, m1) => some (.bl (ts.any fun t => isT t x), m1) | none => none
  | .call f _ es, e, m => match evEs es e m with
    | some (xs, m1) => P.call f xs m1
    | none => none
  | .comp own t it ifs elt, e, m => match evE it e m with
    | some (d, m1) => match itemsD P d with
      | some xs =>
        match lcGo (fun x m => match asgT t x (wipeE e own) with
          | some e1 => match evIfs ifs e1 m with
            | some (true, m2) => match evE elt e1 m2 with | some (y, m3) => some ([y], m3) | none => none
            | some (false, m2) => some ([], m2)
            | none => none
          | none => none) xs m1 with
        | some (ys, m2) => if lenOk ys.length then some (.lst ys, m2) else none
        | none => none
      | none => none
    | none => none
def evEs : List E → Env → List D → Option (List D × List D)
  | [], _, m => some ([], m)
  | a :: as, e, m => match evE a e m with
    | some (x, m1) => match evEs as e m1 with
      | some (xs, m2) => some (x :: xs, m2)
      | none => none
    | none => none
def evCh : D → List Cop → List E → Env → List D → Option (Bool × List D)
  | x, [o], [b], e, m => match evE b e m with
    | some (y, m1) => match cmpD o x y with | some c => some (c, m1) | none => none
    | none => none
  | x, o :: os, b :: bs, e, m => match evE b e m with
    | some (y, m1) => match cmpD o x y with
      | some true => evCh y os bs e m1
      | some false => some (false, m1)
      | none => none
    | none => none
  | _, _, _, _, _ => none
def evAnd : List E → Env → List D → Option (D × List D)
  | [], _, _ => none
  | [a], e, m => evE a e m
  | a :: as, e, m => match evE a e m with
    | some (x, m1) => match truD P x with
      | some true => evAnd as e m1
      | some false => some (x, m1)
      | none => none
    | none => none
def evOr : List E → Env → List D → Option (D × List D)
  | [], _, _ => none
  | [a], e, m => evE a e m
  | a :: as, e, m => match evE a e m with
    | some (x, m1) => match truD P x with
      | some false => evOr as e m1
      | some true => some (x, m1)
      | none => none
    | none => none
def evIfs : List E → Env → List D → Option (Bool × List D)
  | [], _, m => some (true, m)
  | a :: as, e, m => match evE a e m with
    | some (x, m1) => match truD P x with
      | some true => evIfs as e m1
      | some false => some (false, m1)
      | none => none
    | none => none
end

/-- how a block ends -/
inductive R where
  | nx (e : Env) (m : List D) | rt (d : D) (m : List D)

def forGo (f : D → Env → List D → Option R) : List D → Env → List D → Option R
  | [], e, m => some (.nx e m)
  | x :: xs, e, m => match f x e m with
    | some (.nx e1 m1) => forGo f xs e1 m1
    | r => r
def whGo (c : Env → List D → Option (Bool × List D)) (f : Env → List D → Option R) : Nat → Env → List D → Option R
  | 0, _, _ => none
  | n + 1, e, m => match c e m with
    | some (true, m1) => match f e m1 with
      | some (.nx e1 m2) => whGo c f n e1 m2
      | r => r
    | some (false, m1) => some (.nx e m1)
    | none => none
def evC (c : E) (e : Env) (m : List D) : Option (Bool × List D) := match evE P c e m with
  | some (x, m1) => match truD P x with | some b => some (b, m1) | none => none
  | none => none

mutual
def evS : S → Env → List D → Option R
  | .asg t a, e, m => match evE P a e m with
    | some (x, m1) => match asgT t x e with | some e1 => some (.nx e1 m1) | none => none
    | none => none
  | .sto x i a, e, m => match evE P a e m with
    | some (v, m1) => match evE P i e m1 with
      | some (.int k, m2) => match getE e x with
        | some (.lst xs) => match ixI xs.length k with | some j => some (.nx (e.set x (some (.lst (xs.set j v)))) m2) | none => none
        | _ => none
      | _ => none
    | none => none
  | .stS x i a, e, m => match evE P a e m with
    | some (v, m1) => match evE P i e m1 with
      | some (.int k, m2) => match getE e x with
        | some .st => match ixI m2.length k with | some j => some (.nx e (m2.set j v)) | none => none
        | _ => none
      | _ => none
    | none => none
  | .app x a, e, m => match evE P a e m with
    | some (v, m1) => match getE e x with
      | some (.lst xs) => if decide (xs.length < 16777216) then some (.nx (e.set x (some (.lst (xs ++ [v])))) m1) else none
      | _ => none
    | none => none
  | .pop x, e, m => match getE e x with
    | some (.lst xs) => if xs.isEmpty then none else some (.nx (e.set x (some (.lst xs.dropLast))) m)
    | _ => none
  | .rem x a, e, m => match evE P a e m with
    | some (v, m1) => match getE e x with
      | some (.lst xs) => match remD v xs with | some ys => some (.nx (e.set x (some (.lst ys))) m1) | none => none
      | _ => none
    | none => none
  | .ifs c a b, e, m => match evC P c e m with
    | some (true, m1) => evSs a e m1
    | some (false, m1) => evSs b e m1
    | none => none
  | .whl c b, e, m => whGo (evC P c) (fun e m => evSs b e m) P.W e m
  | .for_ t it b, e, m => match evE P it e m with
    | some (d, m1) => match itemsD P d with
      | some xs => forGo (fun x e m => match asgT t x e with | some e1 => evSs b e1 m | none => none) xs e m1
      | none => none
    | none => none
  | .ret a, e, m => match evE P a e m with | some (x, m1) => some (.rt x m1) | none => none
  | .pass, e, m => some (.nx e m)
def evSs : List S → Env → List D → Option R
  | [], e, m => some (.nx e m)
  | s :: ss, e, m => match evS s e m with
    | some (.nx e1 m1) => evSs ss e1 m1
    | r => r
end
end

structure Fn where
  np : Nat
  nn : Nat
  body : List S
def runF (P : Pr) (f : Fn) (xs : List D) (m : List D) : Option (D × List D) :=
  if xs.length = f.np then
    match evSs P f.body (xs.map some ++ List.replicate (f.nn - xs.length) none) m with
    | some (.rt d m1) => some (d, m1)
    | some (.nx _ m1) => some (.non, m1)
    | none => none
  else none
def callK (fns : List Fn) (ns : List Int) (W : Nat) : Nat → Nat → List D → List D → Option (D × List D)
  | 0, _, _, _ => none
  | k + 1, i, xs, m => match fns[i]? with
    | some f => runF ⟨ns, W, callK fns ns W k⟩ f xs m
    | none => none
end Zz
/-! ZRep: how trees stand in the heap. -/
namespace Zz
open PySem PySem.Spec PyProof.Rows L2

/-- what never changes: the state's place, the script's place, the script -/
structure Gh where
  sa : Addr
  sc : Addr
  ns : List Int

mutual
/-- d stands at v, away from the places Z -/
inductive Rep (G : Gh) (Z : Addr → Prop) (H : Hp) : D → V → Prop
  | non : Rep G Z H .non .non
  | bl (b : Bool) : Rep G Z H (.bl b) (.bl b)
  | int (i : Int) : Rep G Z H (.int i) (.int i)
  | str (x : Str) : Rep G Z H (.str x) (.str x)
  | lst {a : Addr} {xs : List V} {ds : List D} : H a = some (.lst xs) → ¬ Z a → Reps G Z H ds xs → Rep G Z H (.lst ds) (.ref a)
  | tup {a : Addr} {xs : List V} {ds : List D} : H a = some (.tup xs) → ¬ Z a → Reps G Z H ds xs → Rep G Z H (.tup ds) (.ref a)
  | scr : Rep G Z H .scr (.ref G.sc)
  | st : Rep G Z H .st (.ref G.sa)
inductive Reps (G : Gh) (Z : Addr → Prop) (H : Hp) : List D → List V → Prop
  | nil : Reps G Z H [] []
  | cons {d : D} {v : V} {ds : List D} {vs : List V} : Rep G Z H d v → Reps G Z H ds vs → Reps G Z H (d :: ds) (v :: vs)
end

section
variable {G : Gh} {Z Z' : Addr → Prop} {H H' H1 H2 : Hp} {d : D} {v : V} {ds : List D} {vs : List V}

mutual
theorem Rep.mono (k : ∀ b o, ¬ Z b → H b = some o → H' b = some o) (z : ∀ b o, Z' b → H b = some o → Z b) : ∀ {d : D} {v : V}, Rep G Z H d v → Rep G Z' H' d v
  | _, _, .non => .non
  | _, _, .bl b => .bl b
  | _, _, .int i => .int i
  | _, _, .str x => .str x
  | _, _, .lst h n r => .lst (k _ _ n h) (fun q => n (z _ _ q h)) (Reps.mono k z r)
  | _, _, .tup h n r => .tup (k _ _ n h) (fun q => n (z _ _ q h)) (Reps.mono k z r)
  | _, _, .scr => .scr
  | _, _, .st => .st
theorem Reps.mono (k : ∀ b o, ¬ Z b → H b = some o → H' b = some o) (z : ∀ b o, Z' b → H b = some o → Z b) : ∀ {ds : List D} {vs : List V}, Reps G Z H ds vs → Reps G Z' H' ds vs
  | _, _, .nil => .nil
  | _, _, .cons h t => .cons (Rep.mono k z h) (Reps.mono k z t)
end

theorem Reps.length : ∀ {ds : List D} {vs : List V}, Reps G Z H ds vs → ds.length = vs.length
  | _, _, .nil => rfl
  | _, _, .cons _ t => by simp [t.length]
theorem Reps.get : ∀ {ds : List D} {vs : List V} {i : Nat} {d : D}, Reps G Z H ds vs → ds[i]? = some d → ∃ v, vs[i]? = some v ∧ Rep G Z H d v
  | _, _, _, _, .nil, e => by simp at e
  | _, _, 0, _, .cons r _, e => by simp at e; subst e; exact ⟨_, rfl, r⟩
  | _, _, i + 1, x, .cons _ t, e => by
    obtain ⟨u, h1, h2⟩ := Reps.get (i := i) (d := x) t (by simpa using e)
    exact ⟨u, by simpa using h1, h2⟩
theorem Reps.append : ∀ {ds es : List D} {vs us : List V}, Reps G Z H ds vs → Reps G Z H es us → Reps G Z H (ds ++ es) (vs ++ us)
  | _, _, _, _, .nil, s => s
  | _, _, _, _, .cons r t, s => .cons r (Reps.append t s)
theorem Reps.take : ∀ {ds : List D} {vs : List V} (n : Nat), Reps G Z H ds vs → Reps G Z H (ds.take n) (vs.take n)
  | _, _, 0, _ => .nil
  | _, _, _ + 1, .nil => .nil
  | _, _, n + 1, .cons r t => .cons r (Reps.take n t)
theorem Reps.drop : ∀ {ds : List D} {vs : List V} (n : Nat), Reps G Z H ds vs → Reps G Z H (ds.drop n) (vs.drop n)
  | _, _, 0, r => r
  | _, _, _ + 1, .nil => .nil
  | _, _, n + 1, .cons _ t => Reps.drop n t
theorem Reps.set (r : Rep G Z H d v) : ∀ {ds : List D} {vs : List V} (n : Nat), Reps G Z H ds vs → Reps G Z H (ds.set n d) (vs.set n v)
  | _, _, _, .nil => .nil
  | _, _, 0, .cons _ t => .cons r t
  | _, _, n + 1, .cons q t => .cons q (Reps.set r n t)
theorem Reps.reverse : ∀ {ds : List D} {vs : List V}, Reps G Z H ds vs → Reps G Z H ds.reverse vs.reverse
  | _, _, .nil => .nil
  | _, _, .cons r t => by
    rw [List.reverse_cons, List.reverse_cons]
    exact (Reps.reverse t).append (.cons r .nil)
theorem Reps.dropLast {ds : List D} {vs : List V} (r : Reps G Z H ds vs) : Reps G Z H ds.dropLast vs.dropLast := by
  rw [List.dropLast_eq_take, List.dropLast_eq_take, r.length]
  exact r.take _
theorem Reps.rep : ∀ {ds : List D} {vs : List V} (n : Nat), Reps G Z H ds vs → Reps G Z H (List.replicate n ds).flatten (List.replicate n vs).flatten
  | _, _, 0, _ => .nil
  | _, _, n + 1, r => by
    rw [List.replicate_succ, List.replicate_succ, List.flatten_cons, List.flatten_cons]
    exact r.append (Reps.rep n r)
theorem Reps.snoc (t : Reps G Z H ds vs) (r : Rep G Z H d v) : Reps G Z H (ds ++ [d]) (vs ++ [v]) := t.append (.cons r .nil)
theorem Reps.ints : ∀ (ns : List Int), Reps G Z H (ns.map D.int) (ns.map V.int)
  | [] => .nil
  | n :: r => .cons (.int n) (Reps.ints r)
theorem Rep.int_inv {i : Int} (r : Rep G Z H (.int i) v) : v = .int i := by cases r; rfl
theorem Rep.bl_inv {i : Bool} (r : Rep G Z H (.bl i) v) : v = .bl i := by cases r; rfl
theorem Rep.non_inv (r : Rep G Z H .non v) : v = .non := by cases r; rfl
theorem Reps.nil_inv (r : Reps G Z H [] vs) : vs = [] := by cases r; rfl
theorem Reps.cons_inv {x : D} (r : Reps G Z H (x :: ds) vs) : ∃ u us, vs = u :: us ∧ Rep G Z H x u ∧ Reps G Z H ds us := by
  cases r with
  | cons a b => exact ⟨_, _, rfl, a, b⟩
theorem Rep.lst_inv (r : Rep G Z H (.lst ds) v) : ∃ a xs, v = .ref a ∧ H a = some (.lst xs) ∧ ¬ Z a ∧ Reps G Z H ds xs := by
  cases r with
  | lst h n t => exact ⟨_, _, rfl, h, n, t⟩
theorem Rep.tup_inv (r : Rep G Z H (.tup ds) v) : ∃ a xs, v = .ref a ∧ H a = some (.tup xs) ∧ ¬ Z a ∧ Reps G Z H ds xs := by
  cases r with
  | tup h n t => exact ⟨_, _, rfl, h, n, t⟩
theorem Reps.ints_inv : ∀ {ds : List D} {vs : List V} {is : List Int}, Reps G Z H ds vs → intsD ds = some is → vs = is.map V.int ∧ ds = is.map D.int
  | [], _, _, r, e => by cases r; simp [intsD] at e; subst e; exact ⟨rfl, rfl⟩
  | .int i :: ds, _, is, r, e => by
    cases r with
    | cons a b =>
      cases a
      simp only [intsD] at e
      split at e
      · rename_i js hj
        cases e
        obtain ⟨h1, h2⟩ := Reps.ints_inv b hj
        exact ⟨by rw [h1]; rfl, by rw [h2]; rfl⟩
      · cases e
  | .non :: _, _, _, _, e => by simp [intsD] at e
  | .bl _ :: _, _, _, _, e => by simp [intsD] at e
  | .str _ :: _, _, _, _, e => by simp [intsD] at e
  | .lst _ :: _, _, _, _, e => by simp [intsD] at e
  | .tup _ :: _, _, _, _, e => by simp [intsD] at e
  | .scr :: _, _, _, _, e => by simp [intsD] at e
  | .st :: _, _, _, _, e => by simp [intsD] at e
theorem Reps.bools_inv : ∀ {ds : List D} {vs : List V} {is : List Bool}, Reps G Z H ds vs → boolsD ds = some is → vs = is.map V.bl
  | [], _, _, r, e => by cases r; simp [boolsD] at e; subst e; rfl
  | .bl i :: ds, _, is, r, e => by
    cases r with
    | cons a b =>
      cases a
      simp only [boolsD] at e
      split at e
      · rename_i js hj
        cases e
        rw [Reps.bools_inv b hj]; rfl
      · cases e
  | .non :: _, _, _, _, e => by simp [boolsD] at e
  | .int _ :: _, _, _, _, e => by simp [boolsD] at e
  | .str _ :: _, _, _, _, e => by simp [boolsD] at e
  | .lst _ :: _, _, _, _, e => by simp [boolsD] at e
  | .tup _ :: _, _, _, _, e => by simp [boolsD] at e
  | .scr :: _, _, _, _, e => by simp [boolsD] at e
  | .st :: _, _, _, _, e => by simp [boolsD] at e

/-- .. or a list at a place in Z -/
def RepO (G : Gh) (Z : Addr → Prop) (H : Hp) (d : D) (v : V) : Prop :=
  Rep G Z H d v ∨ ∃ a vs ds, v = .ref a ∧ d = .lst ds ∧ H a = some (.lst vs) ∧ Reps G Z H ds vs ∧ a ≠ G.sa
inductive RepsO (G : Gh) (Z : Addr → Prop) (H : Hp) : List D → List V → Prop
  | nil : RepsO G Z H [] []
  | cons {d : D} {v : V} {ds : List D} {vs : List V} : RepO G Z H d v → RepsO G Z H ds vs → RepsO G Z H (d :: ds) (v :: vs)
theorem Rep.o (r : Rep G Z H d v) : RepO G Z H d v := .inl r
theorem RepO.lst (r : RepO G Z H (.lst ds) v) : ∃ a xs, v = .ref a ∧ H a = some (.lst xs) ∧ Reps G Z H ds xs := by
  rcases r with r | ⟨a, vs, es, rfl, e, h, t, _⟩
  · obtain ⟨a, xs, e, h, _, t⟩ := r.lst_inv; exact ⟨a, xs, e, h, t⟩
  · cases e; exact ⟨a, vs, rfl, h, t⟩
theorem RepO.rep (r : RepO G Z H d v) (n : ∀ ds, d ≠ .lst ds) : Rep G Z H d v := by
  rcases r with r | ⟨a, vs, es, _, e, _⟩
  · exact r
  · exact absurd e (n es)
theorem RepsO.cons_inv {x : D} (r : RepsO G Z H (x :: ds) vs) : ∃ u us, vs = u :: us ∧ RepO G Z H x u ∧ RepsO G Z H ds us := by
  cases r with
  | cons a b => exact ⟨_, _, rfl, a, b⟩
theorem RepsO.nil_inv (r : RepsO G Z H [] vs) : vs = [] := by cases r; rfl
theorem RepsO.length : ∀ {ds : List D} {vs : List V}, RepsO G Z H ds vs → ds.length = vs.length
  | _, _, .nil => rfl
  | _, _, .cons _ t => by simp [t.length]

/-- all but the state is kept -/
def Ext (G : Gh) (H H' : Hp) : Prop := ∀ b o, b ≠ G.sa → H b = some o → H' b = some o
theorem Ext.refl (H : Hp) : Ext G H H := fun _ _ _ h => h
theorem Ext.trans (a : Ext G H H1) (b : Ext G H1 H2) : Ext G H H2 := fun c o n h => b c o n (a c o n h)
theorem Ext.of (k : Same H H') : Ext G H H' := fun b o _ h => k b o h
theorem Same.upd {a : Addr} {o : HO} (h : H a = none) : Same H (upd H a o) := fun b u e => by
  rw [upd_ne (ne_of_none e h)]; exact e

/-- the script, as it can be read at any time -/
def ScrOk (K : PySem.W.Frag) (H : Hp) (G : Gh) : Prop :=
  (∃ o, H G.sc = some (.frz o (.lst (G.ns.map V.int)))) ∨
    ∃ (o : Obj) (its : Array Value) (n : Nat), K.lookup G.sc = some o ∧ o.cls = .type "list" ∧ o.dict = none ∧ o.data = .seq its n ∧ its.size ≤ sizeLine ∧ Vals (G.ns.map V.int) its.toList
theorem ScrOk.seq {K : PySem.W.Frag} (h : ScrOk K H G) : SqL K H G.sc (G.ns.map V.int) := by
  rcases h with ⟨o, h⟩ | h
  · exact .inl (.inr ⟨o, h⟩)
  · exact .inr h

/-- what stands around: the state, the script -/
structure Amb (G : Gh) (K : PySem.W.Frag) (Z : Addr → Prop) (H : Hp) (m : List D) : Prop where
  st : ∃ vs, H G.sa = some (.lst vs) ∧ Reps G Z H m vs
  zsa : Z G.sa
  zin : ∀ a, Z a → H a ≠ none
  scr : ScrOk K H G
section
variable {K : PySem.W.Frag} {m m' : List D}
theorem Amb.keep (A : Amb G K Z H m) (x : Ext G H H') : ∀ b o, ¬ Z b → H b = some o → H' b = some o := fun b o n h => x b o (fun e => n (e ▸ A.zsa)) h
theorem Amb.rep (A : Amb G K Z H m) (x : Ext G H H') (r : Rep G Z H d v) : Rep G Z H' d v := r.mono (A.keep x) fun _ _ z _ => z
theorem Amb.reps (A : Amb G K Z H m) (x : Ext G H H') (r : Reps G Z H ds vs) : Reps G Z H' ds vs := r.mono (A.keep x) fun _ _ z _ => z
theorem Amb.repO (A : Amb G K Z H m) (x : Ext G H H') (r : RepO G Z H d v) : RepO G Z H' d v := by
  rcases r with r | ⟨a, vs, es, rfl, e, h, t, n⟩
  · exact .inl (A.rep x r)
  · exact .inr ⟨a, vs, es, rfl, e, x a _ n h, A.reps x t, n⟩
theorem Amb.repsO (A : Amb G K Z H m) (x : Ext G H H') : ∀ {ds : List D} {vs : List V}, RepsO G Z H ds vs → RepsO G Z H' ds vs
  | _, _, .nil => .nil
  | _, _, .cons r t => .cons (A.repO x r) (Amb.repsO A x t)
theorem ScrOk.ext (h : ScrOk K H G) (x : Ext G H H') (st : ∃ vs, H G.sa = some (.lst vs)) : ScrOk K H' G := by
  rcases h with ⟨o, h⟩ | h
  · refine .inl ⟨o, x _ _ (fun e => ?_) h⟩
    obtain ⟨vs, q⟩ := st
    rw [← e, h] at q; cases q
  · exact .inr h
theorem Amb.next (A : Amb G K Z H m) (x : Ext G H H') (s : ∃ vs, H' G.sa = some (.lst vs) ∧ Reps G Z H' m' vs) : Amb G K Z H' m' where
  st := s
  zsa := A.zsa
  zin := fun a z => by
    by_cases e : a = G.sa
    · obtain ⟨vs, q, _⟩ := s; rw [e, q]; simp
    · cases q : H a with
      | none => exact absurd q (A.zin a z)
      | some o => rw [x a o e q]; simp
  scr := A.scr.ext x (let ⟨vs, q, _⟩ := A.st; ⟨vs, q⟩)
theorem Amb.same (A : Amb G K Z H m) (x : Same H H') : Amb G K Z H' m :=
  A.next (Ext.of x) (let ⟨vs, q, r⟩ := A.st; ⟨vs, x _ _ q, A.reps (Ext.of x) r⟩)
theorem Amb.fresh (A : Amb G K Z H m) {p : Addr} (h : H p = none) : ¬ Z p := fun z => A.zin p z h
/-- a new list, a new tuple -/
theorem Amb.newL (A : Amb G K Z H m) {p : Addr} (h : H p = none) (r : Reps G Z H ds vs) : Rep G Z (upd H p (.lst vs)) (.lst ds) (.ref p) :=
  .lst upd_same (A.fresh h) (A.reps (Ext.of (Same.upd h)) r)
/-- what an operation makes: all is kept, a list that it gives is a new one -/
structure New (G : Gh) (Z : Addr → Prop) (H H' : Hp) (d : D) (v : V) : Prop where
  same : Same H H'
  rep : Rep G Z H' d v
  new : ∀ ds, d = .lst ds → ∃ p vs, v = .ref p ∧ H p = none ∧ H' = upd H p (.lst vs) ∧ Reps G Z H ds vs
theorem New.sc (r : Rep G Z H d v) (n : ∀ ds, d ≠ .lst ds) : New G Z H H d v := ⟨Same.refl _, r, fun ds e => absurd e (n ds)⟩
theorem New.int (i : Int) : New G Z H H (.int i) (.int i) := New.sc (.int i) (fun _ z => by cases z)
theorem New.bl (i : Bool) : New G Z H H (.bl i) (.bl i) := New.sc (.bl i) (fun _ z => by cases z)
theorem Amb.newLN (A : Amb G K Z H m) {p : Addr} (h : H p = none) (r : Reps G Z H ds vs) : New G Z H (upd H p (.lst vs)) (.lst ds) (.ref p) :=
  ⟨Same.upd h, A.newL h r, fun es e => by cases e; exact ⟨p, vs, rfl, h, rfl, r⟩⟩
theorem Amb.newT (A : Amb G K Z H m) {p : Addr} (h : H p = none) (r : Reps G Z H ds vs) : Rep G Z (upd H p (.tup vs)) (.tup ds) (.ref p) :=
  .tup upd_same (A.fresh h) (A.reps (Ext.of (Same.upd h)) r)
theorem Amb.newTN (A : Amb G K Z H m) {p : Addr} (h : H p = none) (r : Reps G Z H ds vs) : New G Z H (upd H p (.tup vs)) (.tup ds) (.ref p) :=
  ⟨Same.upd h, A.newT h r, fun es e => by cases e⟩
end
end
end Zz
/-! ZOps: the operations on trees are those of the model. -/
namespace Zz
open PySem PySem.Spec PyProof.Rows L2

/-- readings by values -/
def rD2 (G : Gh) (K : PySem.W.Frag) (f : D → D → Option D) : R2 := fun x y H Q => ∃ Z m d1 d2 d, Amb G K Z H m ∧ RepO G Z H d1 x ∧ RepO G Z H d2 y ∧ f d1 d2 = some d ∧ ∀ v H', New G Z H H' d v → Q v H'
def rDs (G : Gh) (K : PySem.W.Frag) (f : List D → Option D) : List V → Hp → VK → Prop := fun vs H Q => ∃ Z m ds d, Amb G K Z H m ∧ RepsO G Z H ds vs ∧ f ds = some d ∧ ∀ v H', New G Z H H' d v → Q v H'

section
variable {X : Cx} {G : Gh}

theorem sizeLine_is : sizeLine = 16777216 := sizeLine_eq
theorem lenOk_iff {n : Nat} : lenOk n = true ↔ n ≤ sizeLine := by rw [sizeLine_is]; simp [lenOk]
theorem small64_iff {i : Int} : small64 i = true ↔ (-(2 ^ 64) < i ∧ i < 2 ^ 64) := by
  simp only [small64, decide_eq_true_eq]; omega

theorem opR_add : OpR X (binaryOp .Add) (rD2 G X.K (opD .add)) := by
  intro pins s σ H x y v u Q I rx ry ⟨Z, m, d1, d2, d, A, r1, r2, e, q⟩
  cases d1 with
  | int i =>
    cases d2 with
    | int j =>
      simp only [opD, Option.some.injEq] at e; subst e
      have e1 := (r1.rep (fun _ z => by cases z)).int_inv
      have e2 := (r2.rep (fun _ z => by cases z)).int_inv
      exact op_add pins s σ H x y v u Q I rx ry ⟨i, j, e1, e2, q _ _ (New.int _)⟩
    | _ => simp [opD] at e
  | lst xs =>
    cases d2 with
    | lst ys =>
      simp only [opD] at e
      split at e
      · rename_i hl
        cases e
        obtain ⟨a, us, ex, ha, ra⟩ := r1.lst
        obtain ⟨b, ws, ey, hb, rb⟩ := r2.lst
        have hl := lenOk_iff.mp hl
        rw [ra.length, rb.length] at hl
        exact op_cat pins s σ H x y v u Q I rx ry ⟨a, b, us, ws, ex, ey, ha, hb, hl, fun p hp => q _ _ (A.newLN hp (ra.append rb))⟩
      · cases e
    | _ => simp [opD] at e
  | tup xs =>
    cases d2 with
    | tup ys =>
      simp only [opD] at e
      split at e
      · rename_i hl
        cases e
        obtain ⟨a, us, ex, ha, na, ra⟩ := (r1.rep (fun _ z => by cases z)).tup_inv
        obtain ⟨b, ws, ey, hb, nb, rb⟩ := (r2.rep (fun _ z => by cases z)).tup_inv
        have hl := lenOk_iff.mp hl
        rw [ra.length, rb.length] at hl
        refine op_catA pins s σ H x y v u Q I rx ry ⟨a, b, us, ws, ex, ey, SqT.of ha, SqT.of hb, hl, fun e1 => ?_, fun e1 e2 => ?_, fun e1 e2 p hp => ?_⟩
        · subst e1
          cases ra
          rw [← ey]
          exact q _ _ (New.sc (by rw [List.nil_append, ey]; exact .tup hb nb rb) (fun _ z => by cases z))
        · subst e2
          cases rb
          rw [← ex]
          exact q _ _ (New.sc (by rw [List.append_nil, ex]; exact .tup ha na ra) (fun _ z => by cases z))
        · exact q _ _ (A.newTN hp (ra.append rb))
      · cases e
    | _ => simp [opD] at e
  | _ => cases d2 <;> simp [opD] at e

theorem opR_sub : OpR X (binaryOp .Sub) (rD2 G X.K (opD .sub)) := by
  intro pins s σ H x y v u Q I rx ry ⟨Z, m, d1, d2, d, A, r1, r2, e, q⟩
  cases d1 with
  | int i =>
    cases d2 with
    | int j =>
      simp only [opD, Option.some.injEq] at e; subst e
      have e1 := (r1.rep (fun _ z => by cases z)).int_inv
      have e2 := (r2.rep (fun _ z => by cases z)).int_inv
      exact op_sub pins s σ H x y v u Q I rx ry ⟨i, j, e1, e2, q _ _ (New.int _)⟩
    | _ => simp [opD] at e
  | _ => cases d2 <;> simp [opD] at e

theorem opR_mul : OpR X (binaryOp .Mult) (rD2 G X.K (opD .mul)) := by
  intro pins s σ H x y v u Q I rx ry ⟨Z, m, d1, d2, d, A, r1, r2, e, q⟩
  cases d1 with
  | int i =>
    cases d2 with
    | int j =>
      simp only [opD] at e
      split at e
      · rename_i hm
        cases e
        have e1 := (r1.rep (fun _ z => by cases z)).int_inv
        have e2 := (r2.rep (fun _ z => by cases z)).int_inv
        simp only [mulOk, Bool.or_eq_true, decide_eq_true_eq] at hm
        rcases hm with (hm | hm) | hm
        · exact op_mul pins s σ H x y v u Q I rx ry ⟨i, j, e1, e2, .inl (small64_iff.mp hm), q _ _ (New.int _)⟩
        · exact op_mul pins s σ H x y v u Q I rx ry ⟨i, j, e1, e2, .inr (small64_iff.mp hm), q _ _ (New.int _)⟩
        · exact op_mulW pins s σ H x y v u Q I rx ry ⟨i, j, e1, e2, hm, q _ _ (New.int _)⟩
      · cases e
    | _ => simp [opD] at e
  | lst xs =>
    cases d2 with
    | int k =>
      simp only [opD] at e
      split at e
      · rename_i hm
        cases e
        simp only [Bool.and_eq_true, decide_eq_true_eq] at hm
        obtain ⟨⟨h1, h2⟩, h3⟩ := hm
        obtain ⟨a, us, ex, ha, ra⟩ := r1.lst
        have e2 := (r2.rep (fun _ z => by cases z)).int_inv
        have h3 := lenOk_iff.mp h3
        rw [ra.length] at h3
        exact op_rep pins s σ H x y v u Q I rx ry ⟨a, k, us, ex, e2, ha, by omega, by omega, h3, fun p hp => q _ _ (A.newLN hp (ra.rep _))⟩
      · cases e
    | _ => simp [opD] at e
  | _ => cases d2 <;> simp [opD] at e

/-- // by a divisor other than 0, below 2 ^ 9000 -/
def CDivA (_ j : Int) : Prop := j ≠ 0 ∧ j.natAbs.log2 < 9000
theorem op_fdivA : OpR X (binaryOp .FloorDiv) (rI CDivA fun i j => .int (i.fdiv j)) := opI fun _ _ _ _ _ _ _ hc q => floordiv_int hc.1 q (.inl (PyProof.noPylong_of_log2 hc.2))
theorem opR_fdiv : OpR X (binaryOp .FloorDiv) (rD2 G X.K (opD .fdiv)) := by
  intro pins s σ H x y v u Q I rx ry ⟨Z, m, d1, d2, d, A, r1, r2, e, q⟩
  cases d1 with
  | int i =>
    cases d2 with
    | int j =>
      simp only [opD] at e
      split at e
      · rename_i hm
        cases e
        have e1 := (r1.rep (fun _ z => by cases z)).int_inv
        have e2 := (r2.rep (fun _ z => by cases z)).int_inv
        simp only [divOk, Bool.and_eq_true, decide_eq_true_eq] at hm
        refine op_fdivA pins s σ H x y v u Q I rx ry ⟨i, j, e1, e2, hm, q _ _ (New.sc ?_ (fun _ z => by cases z))⟩
        have : divI i j = i.fdiv j := by
          unfold divI; split
          · exact (Int.fdiv_eq_ediv_of_nonneg i (by omega)).symm
          · rfl
        rw [this]; exact .int _
      · cases e
    | _ => simp [opD] at e
  | _ => cases d2 <;> simp [opD] at e

theorem opR_mod : OpR X (binaryOp .Mod) (rD2 G X.K (opD .mod)) := by
  intro pins s σ H x y v u Q I rx ry ⟨Z, m, d1, d2, d, A, r1, r2, e, q⟩
  cases d1 with
  | int i =>
    cases d2 with
    | int j =>
      simp only [opD] at e
      split at e
      · rename_i hm
        cases e
        have e1 := (r1.rep (fun _ z => by cases z)).int_inv
        have e2 := (r2.rep (fun _ z => by cases z)).int_inv
        refine op_modN pins s σ H x y v u Q I rx ry ⟨i, j, e1, e2, hm, q _ _ (New.sc ?_ (fun _ z => by cases z))⟩
        have : modI i j = i.fmod j := by
          unfold modI; split
          · exact (Int.fmod_eq_emod_of_nonneg i (by omega)).symm
          · rfl
        rw [this]; exact .int _
      · cases e
    | _ => simp [opD] at e
  | _ => cases d2 <;> simp [opD] at e

theorem opR_pow : OpR X (binaryOp .Pow) (rD2 G X.K (opD .pow)) := by
  intro pins s σ H x y v u Q I rx ry ⟨Z, m, d1, d2, d, A, r1, r2, e, q⟩
  cases d1 with
  | int i =>
    cases d2 with
    | int j =>
      simp only [opD] at e
      split at e
      · rename_i hm
        cases e
        have e1 := (r1.rep (fun _ z => by cases z)).int_inv
        have e2 := (r2.rep (fun _ z => by cases z)).int_inv
        simp only [powOk, Bool.and_eq_true, decide_eq_true_eq] at hm
        have h3 := small64_iff.mp hm.2
        exact op_pow pins s σ H x y v u Q I rx ry ⟨i, j, e1, e2, ⟨hm.1.1, hm.1.2, by omega⟩, q _ _ (New.int _)⟩
      · cases e
    | _ => simp [opD] at e
  | _ => cases d2 <;> simp [opD] at e

def pyOp : Op → Operator
  | .add => .Add | .sub => .Sub | .mul => .Mult | .fdiv => .FloorDiv | .mod => .Mod | .pow => .Pow
theorem opR (o : Op) : OpR X (binaryOp (pyOp o)) (rD2 G X.K (opD o)) := by
  cases o
  · exact opR_add
  · exact opR_sub
  · exact opR_mul
  · exact opR_fdiv
  · exact opR_mod
  · exact opR_pow

/-! ### equality, membership -/
mutual
theorem Rep.dp {K : PySem.W.Frag} {Z : Addr → Prop} {H : Hp} : ∀ {d : D} {v : V} {p : PyData}, Rep G Z H d v → toPy d = some p → Dp K H v p
  | _, _, _, .non, e => by simp only [toPy, Option.some.injEq] at e; subst e; exact .non
  | _, _, _, .bl b, e => by simp only [toPy, Option.some.injEq] at e; subst e; exact .bl b
  | _, _, _, .int b, e => by simp only [toPy, Option.some.injEq] at e; subst e; exact .int b
  | _, _, _, .str b, e => by simp only [toPy, Option.some.injEq] at e; subst e; exact .str b
  | _, _, _, .lst h n r, e => by
    simp only [toPy] at e
    split at e
    · rename_i ys hy; cases e; exact .lst (SqL.of h) (Reps.dp r hy)
    · cases e
  | _, _, _, .tup h n r, e => by
    simp only [toPy] at e
    split at e
    · rename_i ys hy; cases e; exact .tup (SqT.of h) (Reps.dp r hy)
    · cases e
  | _, _, _, .scr, e => by simp [toPy] at e
  | _, _, _, .st, e => by simp [toPy] at e
theorem Reps.dp {K : PySem.W.Frag} {Z : Addr → Prop} {H : Hp} : ∀ {ds : List D} {vs : List V} {ps : List PyData}, Reps G Z H ds vs → toPys ds = some ps → DpAll K H vs ps
  | _, _, _, .nil, e => by simp only [toPys, Option.some.injEq] at e; subst e; exact .nil
  | _, _, _, .cons r t, e => by
    simp only [toPys] at e
    split at e
    · rename_i y ys hy hys; cases e; exact .cons (Rep.dp r hy) (Reps.dp t hys)
    · cases e
end
theorem RepO.dp {K : PySem.W.Frag} {Z : Addr → Prop} {H : Hp} {d : D} {v : V} {p : PyData} (r : RepO G Z H d v) (e : toPy d = some p) : Dp K H v p := by
  rcases r with r | ⟨a, vs, ds, rfl, rfl, h, t, _⟩
  · exact r.dp e
  · simp only [toPy] at e
    split at e
    · rename_i ys hy; cases e; exact .lst (SqL.of h) (Reps.dp t hy)
    · cases e
theorem shp_eq (d : PyData) : shp d = SeqAt.shaped d := rfl
theorem shp_int (i : Int) : SeqAt.shaped (.int i) = true := by simp [SeqAt.shaped, PyData.canLay0, PyData.depth]
/-- what eqD means -/
theorem eqD_py {a b : D} {c : Bool} (e : eqD a b = some c) : ∃ p q, toPy a = some p ∧ toPy b = some q ∧ SeqAt.shaped p = true ∧ SeqAt.shaped q = true ∧ c = PyData.eqv p q := by
  unfold eqD at e
  split at e
  · rename_i i j
    cases e
    exact ⟨.int i, .int j, rfl, rfl, shp_int i, shp_int j, by simp [PyData.eqv]⟩
  · split at e
    · rename_i x y hx hy
      split at e
      · rename_i hs
        cases e
        rw [Bool.and_eq_true] at hs
        exact ⟨x, y, hx, hy, hs.1, hs.2, rfl⟩
      · cases e
    · cases e
theorem memD_py {a b : D} {c : Bool} (e : memD a b = some c) : ∃ p xs qs, b = .lst xs ∧ toPy a = some p ∧ toPys xs = some qs ∧ SeqAt.shaped p = true ∧ SeqAt.shaped (.list qs) = true ∧ c = qs.any fun z => PyData.eqv z p := by
  unfold memD at e
  split at e
  · rename_i xs
    split at e
    · rename_i x y hx hy
      split at e
      · rename_i hs
        cases e
        rw [Bool.and_eq_true] at hs
        exact ⟨x, xs, y, rfl, hx, hy, hs.1, hs.2, rfl⟩
      · cases e
    · cases e
  · cases e

def pyCop : Cop → CmpOp
  | .eq => .Eq | .ne => .NotEq | .lt => .Lt | .le => .LtE | .gt => .Gt | .ge => .GtE | .is => .Is | .isn => .IsNot | .mem => .In | .nmem => .NotIn
def cmpV (o : Cop) (a b : D) : Option D := match cmpD o a b with | some c => some (.bl c) | none => none

theorem cmpR (hu : X.A.units + 65 < cLine) (o : Cop) : OpR X (compareOp (pyCop o)) (rD2 G X.K (cmpV o)) := by
  intro pins s σ H x y v u Q I rx ry ⟨Z, m, d1, d2, d, A, r1, r2, e, q⟩
  unfold cmpV at e
  split at e
  next c hc =>
    cases e
    have Qc : Q (.bl c) H := q _ _ (New.bl c)
    cases o with
    | eq =>
      simp only [cmpD] at hc
      obtain ⟨p, p', h1, h2, s1, s2, rfl⟩ := eqD_py hc
      exact op_eqD (by omega) pins s σ H x y v u Q I rx ry ⟨p, p', r1.dp h1, r2.dp h2, s1, s2, Qc⟩
    | ne =>
      simp only [cmpD, Option.map_eq_some_iff] at hc
      obtain ⟨c', hc, rfl⟩ := hc
      obtain ⟨p, p', h1, h2, s1, s2, rfl⟩ := eqD_py hc
      exact op_neD (by omega) pins s σ H x y v u Q I rx ry ⟨p, p', r1.dp h1, r2.dp h2, s1, s2, Qc⟩
    | mem =>
      simp only [cmpD] at hc
      obtain ⟨p, xs, ps, rfl, h1, h2, s1, s2, rfl⟩ := memD_py hc
      exact op_inD hu pins s σ H x y v u Q I rx ry ⟨p, ps, r1.dp h1, r2.dp (by simp [toPy, h2]), s1, s2, Qc⟩
    | nmem =>
      simp only [cmpD, Option.map_eq_some_iff] at hc
      obtain ⟨c', hc, rfl⟩ := hc
      obtain ⟨p, xs, ps, rfl, h1, h2, s1, s2, rfl⟩ := memD_py hc
      exact op_notInD hu pins s σ H x y v u Q I rx ry ⟨p, ps, r1.dp h1, r2.dp (by simp [toPy, h2]), s1, s2, Qc⟩
    | is =>
      cases d2 with
      | non =>
        simp only [cmpD, Option.some.injEq] at hc; subst hc
        have e2 := (r2.rep (fun _ z => by cases z)).non_inv
        refine op_isN pins s σ H x y v u Q I rx ry ⟨e2, ?_⟩
        have : isN d1 = decide (x = .non) := by
          rcases r1 with r1 | ⟨a, vs, ds, rfl, rfl, _⟩
          · cases r1 <;> simp [isN]
          · simp [isN]
        rw [← this]; exact Qc
      | _ => simp [cmpD] at hc
    | isn =>
      cases d2 with
      | non =>
        simp only [cmpD, Option.some.injEq] at hc; subst hc
        have e2 := (r2.rep (fun _ z => by cases z)).non_inv
        refine op_notN pins s σ H x y v u Q I rx ry ⟨e2, ?_⟩
        have : isN d1 = decide (x = .non) := by
          rcases r1 with r1 | ⟨a, vs, ds, rfl, rfl, _⟩
          · cases r1 <;> simp [isN]
          · simp [isN]
        rw [← this]; exact Qc
      | _ => simp [cmpD] at hc
    | lt =>
      cases d1 with
      | int i => cases d2 with
        | int j =>
          simp only [cmpD, Option.some.injEq] at hc; subst hc
          exact op_lt pins s σ H x y v u Q I rx ry ⟨i, j, (r1.rep (fun _ z => by cases z)).int_inv, (r2.rep (fun _ z => by cases z)).int_inv, Qc⟩
        | _ => simp [cmpD] at hc
      | _ => cases d2 <;> simp [cmpD] at hc
    | le =>
      cases d1 with
      | int i => cases d2 with
        | int j =>
          simp only [cmpD, Option.some.injEq] at hc; subst hc
          exact op_le pins s σ H x y v u Q I rx ry ⟨i, j, (r1.rep (fun _ z => by cases z)).int_inv, (r2.rep (fun _ z => by cases z)).int_inv, Qc⟩
        | _ => simp [cmpD] at hc
      | _ => cases d2 <;> simp [cmpD] at hc
    | gt =>
      cases d1 with
      | int i => cases d2 with
        | int j =>
          simp only [cmpD, Option.some.injEq] at hc; subst hc
          exact op_gt pins s σ H x y v u Q I rx ry ⟨i, j, (r1.rep (fun _ z => by cases z)).int_inv, (r2.rep (fun _ z => by cases z)).int_inv, Qc⟩
        | _ => simp [cmpD] at hc
      | _ => cases d2 <;> simp [cmpD] at hc
    | ge =>
      cases d1 with
      | int i => cases d2 with
        | int j =>
          simp only [cmpD, Option.some.injEq] at hc; subst hc
          exact op_ge pins s σ H x y v u Q I rx ry ⟨i, j, (r1.rep (fun _ z => by cases z)).int_inv, (r2.rep (fun _ z => by cases z)).int_inv, Qc⟩
        | _ => simp [cmpD] at hc
      | _ => cases d2 <;> simp [cmpD] at hc
  next => cases e
end
end Zz
/-! ZRem: l.remove(x) where items are data of any depth. -/
namespace Zz
open PySem PySem.Spec PyProof.Rows L2
section
variable {X : Cx}
def rRemD (K : PySem.W.Frag) : V → List V → Hp → VK → Prop := fun x xs H Q => ∃ (l : Addr) (vs : List V) (y : V) (d : PyData) (ds : List PyData) (j : Nat), x = V.ref l ∧ xs = [y] ∧ H l = some (.lst vs) ∧ DpAll K H vs ds ∧ Dp K H y d ∧
  SeqAt.shaped (.list ds) = true ∧ SeqAt.shaped d = true ∧ ds.findIdx? (fun z => PyData.eqv z d) = some j ∧ Q .non (upd H l (.lst (vs.eraseIdx j)))
theorem mt_removeD (hu : X.A.units + 65 < cLine) : MtM X "list.remove" (rRemD X.K) := by
  intro pins s σ H x xs v us Q I rx rxs h
  obtain ⟨l, vs, y, d, ds, j, rfl, rfl, hH, ha, hy, sl, sd, hj, q⟩ := h
  cases rx
  obtain ⟨uy, rfl, ry⟩ := rxs.one
  obtain ⟨bs, r1⟩ := Dp.reads I d y uy hy ry
  have hxs : PyData.canLayAll0 ds = true := SeqAt.canLay_of_shaped sl
  have hroom : X.A.units + 1 + min (PyData.depthAll ds) d.depth < cLine := room_in_shaped sd hu
  obtain ⟨z, its, n, r, hl, e⟩ := I.lstM hH
  obtain ⟨as, h4⟩ := Dp.readsAll I ds _ its ha r
  have hn : its.length = ds.length := SeqAt.ReadsAll.length ds its as h4
  have hmap : its.map (SeqAt.readOf s.heap) = ds := SeqAt.readsAll_map ds its as hxs h4
  have hvl := r.length
  rw [List.findIdx?_eq_some_iff_getElem] at hj
  obtain ⟨hjd, hz, hno⟩ := hj
  have hjl : j < its.toArray.size := by rw [List.size_toArray]; omega
  have at_ : ∀ (m : Nat) (hm : m < its.toArray.size) (hd : m < ds.length), SeqAt.readOf s.heap its.toArray[m] = ds[m] := by
    intro m hm hd
    have hml : m < its.length := by simpa using hm
    have e1 : ds[m]? = some (SeqAt.readOf s.heap its[m]) := by rw [← hmap, List.getElem?_map, List.getElem?_eq_getElem hml]; rfl
    rw [List.getElem?_eq_getElem hd] at e1
    have := Option.some.inj e1
    simpa using this.symm
  refine call_meets PySem.F.slot_list_remove ⟨_, e, rfl⟩ PySem.F.entry_list_remove (PySem.F.args_list_remove_2 _ _)
    (SeqAt.list_removeAt l its.toArray n none _ uy (fun u => PyData.eqv (SeqAt.readOf s.heap u) d) j hjl ?_ ?_ (by rw [List.size_toArray]; omega)) ⟨e, SeqAt.items_eqAt (vs := its.toArray) (show ReadsAll s.heap its.toArray.toList ds as from h4) r1 hxs (SeqAt.canLay_of_shaped sd) hroom, ?_⟩
  · show PyData.eqv (SeqAt.readOf s.heap its.toArray[j]) d = true
    rw [at_ j hjl hjd]
    exact hz
  · intro m hm hmj
    show PyData.eqv (SeqAt.readOf s.heap its.toArray[m]) d = false
    rw [at_ m hm (by omega)]
    have := hno m hmj
    simpa using this
  · have rr := r.eraseIdx j
    refine ⟨.non, _, I.lset (its' := its.eraseIdx j) (t' := s.toks) hH e ?_ rr ?_, rfl, q⟩
    · show its.toArray.eraseIdxIfInBounds j = (its.eraseIdx j).toArray
      rw [List.eraseIdxIfInBounds_toArray]
    · have z2 := len_erase vs j
      omega
end
theorem Reps.eraseIdx {G : Gh} {Z : Addr → Prop} {H : Hp} : ∀ {ds : List D} {vs : List V} (j : Nat), Reps G Z H ds vs → Reps G Z H (ds.eraseIdx j) (vs.eraseIdx j)
  | _, _, _, .nil => .nil
  | _, _, 0, .cons _ t => t
  | _, _, j + 1, .cons r t => .cons r (Reps.eraseIdx j t)
end Zz
/-! ZBi: truth, items, slices, built-in functions. -/
namespace Zz
open PySem PySem.Spec PyProof.Rows L2
section
variable {X : Cx} {G : Gh} {P : Pr}

theorem Reps.empty {Z : Addr → Prop} {H : Hp} {ds : List D} {vs : List V} (r : Reps G Z H ds vs) : ds.isEmpty = vs.isEmpty := by cases r <;> rfl
theorem truV_of (hn : P.ns = G.ns) {Z : Addr → Prop} {H : Hp} {m : List D} {d : D} {v : V} {b : Bool} (A : Amb G X.K Z H m) (r : RepO G Z H d v) (e : truD P d = some b) : TruV X.K v H b := by
  cases d with
  | non => rw [(r.rep (fun _ z => by cases z)).non_inv]; simp only [truD, Option.some.injEq] at e; exact e.symm
  | bl c => rw [(r.rep (fun _ z => by cases z)).bl_inv]; simp only [truD, Option.some.injEq] at e; exact e.symm
  | int i => rw [(r.rep (fun _ z => by cases z)).int_inv]; simp only [truD, Option.some.injEq] at e; exact e.symm
  | str x =>
    have := r.rep (fun _ z => by cases z)
    cases this
    simp only [truD] at e
    split at e
    · rename_i h; cases e; exact ⟨lenOk_iff.mp h, rfl⟩
    · cases e
  | lst xs =>
    obtain ⟨a, vs, rfl, h, t⟩ := r.lst
    simp only [truD, Option.some.injEq] at e
    exact .inl ⟨vs, SqL.of h, by rw [← e, t.empty]⟩
  | tup xs =>
    obtain ⟨a, vs, rfl, h, _, t⟩ := (r.rep (fun _ z => by cases z)).tup_inv
    simp only [truD, Option.some.injEq] at e
    exact .inr (.inl ⟨vs, SqT.of h, by rw [← e, t.empty]⟩)
  | scr =>
    have := r.rep (fun _ z => by cases z)
    cases this
    simp only [truD, Option.some.injEq] at e
    refine .inl ⟨_, A.scr.seq, ?_⟩
    rw [← e, hn]; cases G.ns <;> rfl
  | st => simp [truD] at e

theorem ixI_eq (n : Nat) (i : Int) : ixI n i = ixN n i := rfl
theorem atI_of {Z : Addr → Prop} {H : Hp} {ds : List D} {vs : List V} {i : Int} {d : D} (r : Reps G Z H ds vs) (e : at_ ds i = some d) : ∃ v, atI vs i = some v ∧ Rep G Z H d v := by
  unfold at_ at e
  obtain ⟨j, hj, e⟩ := Option.bind_eq_some_iff.mp e
  obtain ⟨v, h1, h2⟩ := r.get e
  refine ⟨v, ?_, h2⟩
  unfold atI
  rw [← r.length, ← ixI_eq, hj]
  exact h1
theorem ixR (hn : P.ns = G.ns) : IxR X (fun x y H Q => ∃ Z m d1 d2 d, Amb G X.K Z H m ∧ RepO G Z H d1 x ∧ RepO G Z H d2 y ∧ ixD P m d1 d2 = some d ∧ ∀ v, Rep G Z H d v → Q v H) := by
  intro value slice pins s σ H x y v u Q I rx ry ⟨Z, m, d1, d2, d, A, r1, r2, e, q⟩
  cases d2 with
  | int i =>
    have e2 := (r2.rep (fun _ z => by cases z)).int_inv
    cases d1 with
    | lst xs =>
      obtain ⟨a, vs, e1, h, t⟩ := r1.lst
      simp only [ixD] at e
      obtain ⟨z, h1, h2⟩ := atI_of t e
      exact ix_list value slice pins s σ H x y v u Q I rx ry ⟨a, vs, i, z, e1, e2, SqL.of h, h1, q _ h2⟩
    | tup xs =>
      obtain ⟨a, vs, e1, h, _, t⟩ := (r1.rep (fun _ z => by cases z)).tup_inv
      simp only [ixD] at e
      obtain ⟨z, h1, h2⟩ := atI_of t e
      exact ix_tup value slice pins s σ H x y v u Q I rx ry ⟨a, vs, i, z, e1, e2, SqT.of h, h1, q _ h2⟩
    | scr =>
      have hx : x = .ref G.sc := by
        have := r1.rep (fun _ z => by cases z)
        cases this; rfl
      simp only [ixD] at e
      obtain ⟨j, hj, e⟩ := Option.bind_eq_some_iff.mp e
      obtain ⟨k, hk, rfl⟩ := Option.map_eq_some_iff.mp e
      refine ix_list value slice pins s σ H x y v u Q I rx ry ⟨G.sc, _, i, .int k, hx, e2, A.scr.seq, ?_, q _ (.int k)⟩
      rw [hn] at hj hk
      unfold atI
      rw [List.length_map, ← ixI_eq, hj]
      show (G.ns.map V.int)[j]? = _
      rw [List.getElem?_map, hk]; rfl
    | st =>
      have hx : x = .ref G.sa := by
        have := r1.rep (fun _ z => by cases z)
        cases this; rfl
      simp only [ixD] at e
      obtain ⟨vs, hs, t⟩ := A.st
      obtain ⟨z, h1, h2⟩ := atI_of t e
      exact ix_list value slice pins s σ H x y v u Q I rx ry ⟨G.sa, vs, i, z, hx, e2, SqL.of hs, h1, q _ h2⟩
    | _ => simp [ixD] at e
  | _ => cases d1 <;> simp [ixD] at e

theorem cutIx_eq (n d : Nat) (o : Option Int) : cutIx n d o = HT.sIx n d o := by
  cases o with
  | none => rfl
  | some i =>
    unfold cutIx HT.sIx
    simp only
    by_cases h : 0 ≤ i
    · rw [if_pos h, if_neg (by omega)]
    · rw [if_neg h, if_pos (by omega)]
theorem cut_reps {Z : Addr → Prop} {H : Hp} {ds : List D} {vs : List V} {lo hi : Option Int} (r : Reps G Z H ds vs) : Reps G Z H (cut ds lo hi) (cutV vs lo hi) := by
  unfold cut cutV
  simp only [cutIx_eq, r.length]
  exact (r.drop _).take _
def slO (x : D) (l h : Option Int) : Option D := match x with
  | .lst xs => some (.lst (cut xs l h))
  | .tup xs => some (.tup (cut xs l h))
  | _ => none
theorem slR : SlR X (fun x lo hi H Q => ∃ Z m d1 d, Amb G X.K Z H m ∧ RepO G Z H d1 x ∧ slO d1 lo hi = some d ∧ ∀ v H', New G Z H H' d v → Q v H') := by
  intro pins s σ H x v vl vu lo hi sl Q I rx hsl h1 h2 ⟨Z, m, d1, d, A, r1, e, q⟩
  cases d1 with
  | lst xs =>
    obtain ⟨a, vs, e1, h, t⟩ := r1.lst
    simp only [slO, Option.some.injEq] at e; subst e
    exact sl_list pins s σ H x v vl vu lo hi sl Q I rx hsl h1 h2 ⟨a, vs, e1, SqL.of h, fun p hp => q _ _ (A.newLN hp (cut_reps t))⟩
  | tup xs =>
    obtain ⟨a, vs, e1, h, na, t⟩ := (r1.rep (fun _ z => by cases z)).tup_inv
    simp only [slO, Option.some.injEq] at e; subst e
    refine sl_tupA pins s σ H x v vl vu lo hi sl Q I rx hsl h1 h2 ⟨a, vs, e1, SqT.of h, fun ⟨z1, z2⟩ => ?_, fun _ p hp => q _ _ (A.newTN hp (cut_reps t))⟩
    refine q _ _ (New.sc (.tup h na ?_) (fun _ z => by cases z))
    have e3 : cut xs lo hi = xs := by
      unfold cut
      simp only [cutIx_eq, t.length, z1, z2]
      rw [List.drop_zero, Nat.sub_zero, ← t.length, List.take_length]
    rw [e3]; exact t
  | _ => simp [slO] at e

/-! ### built-in functions -/
theorem RepsO.one {Z : Addr → Prop} {H : Hp} {d : D} {vs : List V} (r : RepsO G Z H [d] vs) : ∃ v, vs = [v] ∧ RepO G Z H d v := by
  obtain ⟨u, us, rfl, r1, r2⟩ := r.cons_inv
  rw [r2.nil_inv]; exact ⟨u, rfl, r1⟩
theorem RepsO.two {Z : Addr → Prop} {H : Hp} {d e : D} {vs : List V} (r : RepsO G Z H [d, e] vs) : ∃ v u, vs = [v, u] ∧ RepO G Z H d v ∧ RepO G Z H e u := by
  obtain ⟨u, us, rfl, r1, r2⟩ := r.cons_inv
  obtain ⟨v, rfl, r3⟩ := r2.one
  exact ⟨u, v, rfl, r1, r3⟩
theorem RepO.int {Z : Addr → Prop} {H : Hp} {i : Int} {v : V} (r : RepO G Z H (.int i) v) : v = .int i := (r.rep (fun _ z => by cases z)).int_inv
theorem RepO.bl {Z : Addr → Prop} {H : Hp} {i : Bool} {v : V} (r : RepO G Z H (.bl i) v) : v = .bl i := (r.rep (fun _ z => by cases z)).bl_inv
theorem RepO.tup {Z : Addr → Prop} {H : Hp} {ds : List D} {v : V} (r : RepO G Z H (.tup ds) v) : ∃ a xs, v = .ref a ∧ H a = some (.tup xs) ∧ ¬ Z a ∧ Reps G Z H ds xs := (r.rep (fun _ z => by cases z)).tup_inv
/-- what is walked: a list or a tuple that can be read -/
theorem items_seq (hn : P.ns = G.ns) {Z : Addr → Prop} {H : Hp} {m : List D} {d : D} {v : V} {xs : List D} (A : Amb G X.K Z H m) (r : RepO G Z H d v) (e : itemsD P d = some xs) :
    ∃ a vs, v = .ref a ∧ (SqL X.K H a vs ∨ SqT X.K H a vs) ∧ Reps G Z H xs vs := by
  cases d with
  | lst ys =>
    obtain ⟨a, vs, rfl, h, t⟩ := r.lst
    simp only [itemsD, Option.some.injEq] at e; subst e
    exact ⟨a, vs, rfl, .inl (SqL.of h), t⟩
  | tup ys =>
    obtain ⟨a, vs, rfl, h, _, t⟩ := r.tup
    simp only [itemsD, Option.some.injEq] at e; subst e
    exact ⟨a, vs, rfl, .inr (SqT.of h), t⟩
  | scr =>
    have := r.rep (fun _ z => by cases z)
    cases this
    simp only [itemsD, Option.some.injEq] at e; subst e
    rw [hn]
    exact ⟨_, _, rfl, .inl A.scr.seq, Reps.ints _⟩
  | _ => simp [itemsD] at e

theorem biR_len (hn : P.ns = G.ns) : CallR X (.builtin "len") (rDs G X.K (biD P .len)) := by
  intro pins s σ H xs us Q I rx ⟨Z, m, ds, d, A, r, e, q⟩
  match ds, e, r with
  | [x], e, r =>
    obtain ⟨v, ev, r1⟩ := r.one
    subst ev
    simp only [biD] at e
    split at e
    · rename_i ys hy
      cases e
      obtain ⟨a, vs, rfl, hq, t⟩ := items_seq hn A r1 hy
      exact call_len_seq pins s σ H _ us Q I rx ⟨a, vs, rfl, hq, by rw [← t.length]; exact q _ _ (New.int _)⟩
    · cases e
  | [], e, _ => simp [biD] at e
  | _ :: _ :: _, e, _ => simp [biD] at e
theorem biR_abs : CallR X (.builtin "abs") (rDs G X.K (biD P .abs)) := by
  intro pins s σ H xs us Q I rx ⟨Z, m, ds, d, A, r, e, q⟩
  match ds, e, r with
  | [.int i], e, r =>
    obtain ⟨v, ev, r1⟩ := r.one
    subst ev
    simp only [biD, Option.some.injEq] at e; subst e
    exact call_abs pins s σ H _ us Q I rx ⟨i, by rw [r1.int], q _ _ (New.int _)⟩
  | [], e, _ => simp [biD] at e
  | [.non], e, _ => simp [biD] at e
  | [.bl _], e, _ => simp [biD] at e
  | [.str _], e, _ => simp [biD] at e
  | [.lst _], e, _ => simp [biD] at e
  | [.tup _], e, _ => simp [biD] at e
  | [.scr], e, _ => simp [biD] at e
  | [.st], e, _ => simp [biD] at e
  | _ :: _ :: _, e, _ => simp [biD] at e
theorem biR_int : CallR X (.type "int") (rDs G X.K (biD P .int1)) := by
  intro pins s σ H xs us Q I rx ⟨Z, m, ds, d, A, r, e, q⟩
  match ds, e, r with
  | [.int i], e, r =>
    obtain ⟨v, ev, r1⟩ := r.one
    subst ev
    simp only [biD, Option.some.injEq] at e; subst e
    exact call_int1 pins s σ H _ us Q I rx (.inl ⟨i, by rw [r1.int], q _ _ (New.int _)⟩)
  | [.bl i], e, r =>
    obtain ⟨v, ev, r1⟩ := r.one
    subst ev
    simp only [biD, Option.some.injEq] at e; subst e
    exact call_int1 pins s σ H _ us Q I rx (.inr ⟨i, by rw [r1.bl], q _ _ (New.int _)⟩)
  | [], e, _ => simp [biD] at e
  | [.non], e, _ => simp [biD] at e
  | [.str _], e, _ => simp [biD] at e
  | [.lst _], e, _ => simp [biD] at e
  | [.tup _], e, _ => simp [biD] at e
  | [.scr], e, _ => simp [biD] at e
  | [.st], e, _ => simp [biD] at e
  | _ :: _ :: _, e, _ => simp [biD] at e
theorem two_ints {b : Bi} {ds : List D} {d : D} (hb : b = .max2 ∨ b = .min2 ∨ b = .gcd) (e : biD P b ds = some d) : ∃ i j, ds = [.int i, .int j] := by
  rcases hb with rfl | rfl | rfl <;>
  · match ds, e with
    | [.int i, .int j], _ => exact ⟨i, j, rfl⟩
    | [], e => simp [biD] at e
    | [_], e => simp [biD] at e
    | _ :: _ :: _ :: _, e => simp [biD] at e
    | [.non, _], e => simp [biD] at e
    | [.bl _, _], e => simp [biD] at e
    | [.str _, _], e => simp [biD] at e
    | [.lst _, _], e => simp [biD] at e
    | [.tup _, _], e => simp [biD] at e
    | [.scr, _], e => simp [biD] at e
    | [.st, _], e => simp [biD] at e
    | [.int _, .non], e => simp [biD] at e
    | [.int _, .bl _], e => simp [biD] at e
    | [.int _, .str _], e => simp [biD] at e
    | [.int _, .lst _], e => simp [biD] at e
    | [.int _, .tup _], e => simp [biD] at e
    | [.int _, .scr], e => simp [biD] at e
    | [.int _, .st], e => simp [biD] at e
theorem biR_max2 (hc : X.calm = true) : CallR X (.builtin "max") (rDs G X.K (biD P .max2)) := by
  intro pins s σ H xs us Q I rx ⟨Z, m, ds, d, A, r, e, q⟩
  obtain ⟨i, j, rfl⟩ := two_ints (.inl rfl) e
  obtain ⟨u, v, rfl, r1, r2⟩ := r.two
  simp only [biD, Option.some.injEq] at e; subst e
  exact call_max2 hc pins s σ H _ us Q I rx ⟨i, j, by rw [r1.int, r2.int], q _ _ (New.int _)⟩
theorem biR_min2 (hc : X.calm = true) : CallR X (.builtin "min") (rDs G X.K (biD P .min2)) := by
  intro pins s σ H xs us Q I rx ⟨Z, m, ds, d, A, r, e, q⟩
  obtain ⟨i, j, rfl⟩ := two_ints (.inr (.inl rfl)) e
  obtain ⟨u, v, rfl, r1, r2⟩ := r.two
  simp only [biD, Option.some.injEq] at e; subst e
  exact call_min2 hc pins s σ H _ us Q I rx ⟨i, j, by rw [r1.int, r2.int], q _ _ (New.int _)⟩
theorem biR_gcd : CallR X (.builtin "math.gcd") (rDs G X.K (biD P .gcd)) := by
  intro pins s σ H xs us Q I rx ⟨Z, m, ds, d, A, r, e, q⟩
  obtain ⟨i, j, rfl⟩ := two_ints (.inr (.inr rfl)) e
  obtain ⟨u, v, rfl, r1, r2⟩ := r.two
  simp only [biD, Option.some.injEq] at e; subst e
  exact cr_gcd pins s σ H _ us Q I rx ⟨i, j, by rw [r1.int, r2.int], q _ _ (New.int _)⟩
theorem biR_list (hn : P.ns = G.ns) : CallR X (.type "list") (rDs G X.K (biD P .list)) := by
  intro pins s σ H xs us Q I rx ⟨Z, m, ds, d, A, r, e, q⟩
  match ds, e, r with
  | [x], e, r =>
    obtain ⟨v, ev, r1⟩ := r.one
    subst ev
    simp only [biD] at e
    split at e
    · rename_i ys hy
      cases e
      obtain ⟨a, vs, rfl, hq, t⟩ := items_seq hn A r1 hy
      exact call_list_of pins s σ H _ us Q I rx ⟨a, vs, rfl, hq, fun l hl => q _ _ (A.newLN hl t)⟩
    · cases e
  | [], e, _ => simp [biD] at e
  | _ :: _ :: _, e, _ => simp [biD] at e
theorem biR_tuple (hn : P.ns = G.ns) : CallR X (.type "tuple") (rDs G X.K (biD P .tuple)) := by
  intro pins s σ H xs us Q I rx ⟨Z, m, ds, d, A, r, e, q⟩
  match ds, e, r with
  | [x], e, r =>
    obtain ⟨v, ev, r1⟩ := r.one
    subst ev
    simp only [biD] at e
    split at e
    · rename_i ys hy
      cases e
      cases x with
      | tup zs =>
        simp only [itemsD, Option.some.injEq] at hy; subst hy
        obtain ⟨a, vs, rfl, h, na, t⟩ := r1.tup
        exact call_tuple_of pins s σ H _ us Q I rx ⟨a, vs, rfl, .inr ⟨SqT.of h, q _ _ (New.sc (.tup h na t) (fun _ z => by cases z))⟩⟩
      | lst zs =>
        simp only [itemsD, Option.some.injEq] at hy; subst hy
        obtain ⟨a, vs, rfl, h, t⟩ := r1.lst
        exact call_tuple_of pins s σ H _ us Q I rx ⟨a, vs, rfl, .inl ⟨SqL.of h, fun l hl => q _ _ (A.newTN hl t)⟩⟩
      | scr =>
        simp only [itemsD, Option.some.injEq] at hy; subst hy
        have := r1.rep (fun _ z => by cases z)
        cases this
        exact call_tuple_of pins s σ H _ us Q I rx ⟨_, _, rfl, .inl ⟨A.scr.seq, fun l hl => q _ _ (A.newTN hl (by rw [hn]; exact Reps.ints _))⟩⟩
      | _ => simp [itemsD] at hy
    · cases e
  | [], e, _ => simp [biD] at e
  | _ :: _ :: _, e, _ => simp [biD] at e

/-! one argument, a list -/
theorem one_list {b : Bi} {ds : List D} {d : D} (hb : b = .sum ∨ b = .sorted ∨ b = .any ∨ b = .all ∨ b = .lenset) (e : biD P b ds = some d) : ∃ xs, ds = [.lst xs] := by
  rcases hb with rfl | rfl | rfl | rfl | rfl <;>
  · match ds, e with
    | [.lst xs], _ => exact ⟨xs, rfl⟩
    | [], e => simp [biD] at e
    | _ :: _ :: _, e => simp [biD] at e
    | [.non], e => simp [biD] at e
    | [.bl _], e => simp [biD] at e
    | [.str _], e => simp [biD] at e
    | [.int _], e => simp [biD] at e
    | [.tup _], e => simp [biD] at e
    | [.scr], e => simp [biD] at e
    | [.st], e => simp [biD] at e
theorem biR_sum (hc : X.calm = true) : CallR X (.builtin "sum") (rDs G X.K (biD P .sum)) := by
  intro pins s σ H xs us Q I rx ⟨Z, m, ds, d, A, r, e, q⟩
  obtain ⟨ys, rfl⟩ := one_list (.inl rfl) e
  obtain ⟨v, ev, r1⟩ := r.one
  subst ev
  obtain ⟨a, vs, rfl, h, t⟩ := r1.lst
  simp only [biD] at e
  split at e
  · rename_i is hi
    cases e
    obtain ⟨rfl, _⟩ := t.ints_inv hi
    exact cr_sum hc pins s σ H _ us Q I rx ⟨a, is, rfl, SqL.of h, q _ _ (New.int _)⟩
  · cases e
theorem insI_perm (x : Int) : ∀ l : List Int, (insI x l).Perm (x :: l)
  | [] => .refl _
  | y :: r => by
    unfold insI
    split
    · exact .refl _
    · exact ((insI_perm x r).cons y).trans (.swap ..)
theorem sortI_perm : ∀ l : List Int, (sortI l).Perm l
  | [] => .refl _
  | x :: r => (insI_perm x _).trans ((sortI_perm r).cons x)
theorem insI_sorted (x : Int) : ∀ l : List Int, l.Pairwise (· ≤ ·) → (insI x l).Pairwise (· ≤ ·)
  | [], _ => by simp [insI]
  | y :: r, h => by
    unfold insI
    split
    · rename_i hxy
      refine .cons (fun z hz => ?_) h
      rcases List.mem_cons.mp hz with rfl | hz
      · exact hxy
      · exact Int.le_trans hxy ((List.pairwise_cons.mp h).1 z hz)
    · rename_i hxy
      refine .cons (fun z hz => ?_) (insI_sorted x r (List.pairwise_cons.mp h).2)
      rcases List.mem_cons.mp ((insI_perm x r).mem_iff.mp hz) with rfl | hz
      · omega
      · exact (List.pairwise_cons.mp h).1 z hz
theorem sortI_sorted : ∀ l : List Int, (sortI l).Pairwise (· ≤ ·)
  | [] => .nil
  | x :: r => insI_sorted x _ (sortI_sorted r)
theorem sorted_one {l k : List Int} (p : l.Perm k) (h1 : l.Pairwise (· ≤ ·)) (h2 : k.Pairwise (· ≤ ·)) : l = k := p.eq_of_pairwise (fun a b _ _ h1 h2 => Int.le_antisymm h1 h2) h1 h2
theorem biR_sorted : CallR X (.builtin "sorted") (rDs G X.K (biD P .sorted)) := by
  intro pins s σ H xs us Q I rx ⟨Z, m, ds, d, A, r, e, q⟩
  obtain ⟨ys, rfl⟩ := one_list (.inr (.inl rfl)) e
  obtain ⟨v, ev, r1⟩ := r.one
  subst ev
  obtain ⟨a, vs, rfl, h, t⟩ := r1.lst
  simp only [biD] at e
  split at e
  · rename_i is hi
    cases e
    obtain ⟨rfl, _⟩ := t.ints_inv hi
    refine cr_sortedI pins s σ H _ us Q I rx ⟨a, is, rfl, SqL.of h, fun ns' p hp ho hn => ?_⟩
    have := sorted_one (hp.trans (sortI_perm is).symm) ho (sortI_sorted is)
    subst this
    exact q _ _ (A.newLN hn (Reps.ints _))
  · cases e
theorem biR_all (hc : X.calm = true) : CallR X (.builtin "all") (rDs G X.K (biD P .all)) := by
  intro pins s σ H xs us Q I rx ⟨Z, m, ds, d, A, r, e, q⟩
  obtain ⟨ys, rfl⟩ := one_list (.inr (.inr (.inr (.inl rfl)))) e
  obtain ⟨v, ev, r1⟩ := r.one
  subst ev
  obtain ⟨a, vs, rfl, h, t⟩ := r1.lst
  simp only [biD] at e
  split at e
  · rename_i is hi
    cases e
    have := t.bools_inv hi
    subst this
    exact cr_all hc pins s σ H _ us Q I rx ⟨a, is, rfl, SqL.of h, q _ _ (New.bl _)⟩
  · cases e
theorem vals_ints_eq : ∀ {is : List Int} {us : List Value}, Vals (is.map V.int) us → us.length = is.length ∧ ∀ i u, us[i]? = some u → ∃ t, u = Value.int (is.getD i 0) t
  | [], us, r => by cases r; exact ⟨rfl, fun i u h => by simp at h⟩
  | n :: is, us, r => by
    cases r with
    | cons r t =>
      obtain ⟨k, rfl⟩ := r
      obtain ⟨h1, h2⟩ := vals_ints_eq t
      refine ⟨by simp [h1], fun i u h => ?_⟩
      cases i with
      | zero => simp at h; exact ⟨k, by simp [← h]⟩
      | succ i => obtain ⟨t', e⟩ := h2 i u (by simpa using h); exact ⟨t', by simpa using e⟩
theorem any_rangeI : ∀ is : List Int, (List.range is.length).any (fun i => is.getD i 0 != 0) = is.any fun i => i != 0
  | [] => rfl
  | b :: bs => by
    rw [List.length_cons, List.range_succ_eq_map, List.any_cons, List.any_map, List.any_cons, ← any_rangeI bs]
    all_goals rfl
theorem cr_anyI (hc : X.calm = true) : CallR X (.builtin "any") (fun vs H Q => ∃ (a : Addr) (is : List Int), vs = [V.ref a] ∧ SqL X.K H a (is.map V.int) ∧ Q (.bl (is.any fun i => i != 0)) H) := by
  intro pins s σ H vs us Q I r h
  obtain ⟨a, bs, rfl, hs, q⟩ := h
  obtain ⟨its, rv, hl, _⟩ := I.list hs
  rw [Vals.ref1 r]
  obtain ⟨hlen, hb⟩ := vals_ints_eq rv
  refine call_any_walk (iter_any hl.isList fun s₂ e2 st hne => ?_)
  subst e2
  refine ⟨_, _, _, _, _, _, fun i => bs.getD i 0 != 0, rfl, Walks.list (A := X.A.in1) (I.ok.hd hc) _ a hne its.toArray, st, fun i v s Q E hv hq => ?_, fun h' tk hk => ?_⟩
  · obtain ⟨t, rfl⟩ := hb i v (by simpa using hv)
    exact PySem.P.truthy_int hq
  refine ⟨.bl _, H, I.kept fun b o eo => hk b o (fun hmem => ?_) (Heap.get?_push_of_some _ eo), ?_, q⟩
  · rcases List.mem_cons.mp hmem with e1 | hmem
    · exact absurd (e1 ▸ Heap.lt_size eo) (Nat.lt_irrefl _)
    · cases hmem
  · show Value.bool _ = Value.bool _
    rw [← any_rangeI, List.size_toArray, hlen]
theorem biR_any (hc : X.calm = true) : CallR X (.builtin "any") (rDs G X.K (biD P .any)) := by
  intro pins s σ H xs us Q I rx ⟨Z, m, ds, d, A, r, e, q⟩
  obtain ⟨ys, rfl⟩ := one_list (.inr (.inr (.inl rfl))) e
  obtain ⟨v, ev, r1⟩ := r.one
  subst ev
  obtain ⟨a, vs, rfl, h, t⟩ := r1.lst
  simp only [biD] at e
  split at e
  · rename_i is hi
    cases e
    have := t.bools_inv hi
    subst this
    exact cr_any hc pins s σ H _ us Q I rx ⟨a, is, rfl, SqL.of h, q _ _ (New.bl _)⟩
  · split at e
    · rename_i is hi
      cases e
      obtain ⟨rfl, _⟩ := t.ints_inv hi
      exact cr_anyI hc pins s σ H _ us Q I rx ⟨a, is, rfl, SqL.of h, q _ _ (New.bl _)⟩
    · cases e
/-! len(set(xs)) -/
theorem firstMet_dd (is : List Int) : firstMet (fun i => is.getD i 0) is.length = ddI is := by
  have h : (List.range is.length).map (fun i => is.getD i 0) = is := by
    apply List.ext_getElem
    · simp
    · intro i h1 h2
      simp at h1
      simp [List.getD_eq_getElem?_getD, List.getElem?_eq_getElem h2]
  unfold firstMet
  rw [h]
  rfl
def tLenS (K : PySem.W.Frag) (ta : TE) : TE := fun σ H Q => ta σ H fun x H1 => ∃ (l : Addr) (ns : List Int), x = .ref l ∧ SqL K H1 l (ns.map V.int) ∧ ns.length ≤ 4000 ∧ Q (.int ((ddI ns).length : Nat)) H1
theorem pe_lenS {X : Cx} {a : Expr} {ta : TE} {p p2 q pos : Pos} (hg : Gl X "len") (hm : X.mg "len" = none) (hg2 : Gl X "set") (hm2 : X.mg "set" = none) (ha : PE X a ta) (hc : X.calm = true)
    (na : starEach [a] X.env = (false, eval a X.env) :: starEach [] X.env) : PE X (.Call (.Name "len" p) [.Call (.Name "set" p2) [a] [] q] [] pos) (tLenS X.K ta) := by
  refine ⟨fun pins s σ H Q I h => ?_⟩
  refine Call_ (ld_blt I hg hm boot_len ?_)
  refine PyProof.Rows.callWith_builtin1 (PyProof.Rows.args_cons ?_ rfl) rfl rfl
  refine Call_ (ld_blt I hg2 hm2 boot_set ?_)
  refine PyProof.Rows.callWith_type1 (PyProof.Rows.args_cons (thn (ha.run pins s σ H _ I h) fun v s1 ⟨x, H1, I1, r1, q1⟩ => PyProof.Rows.args_nil ?_) na) na rfl
  obtain ⟨l, ns, rfl, hq, hl, q1⟩ := q1
  cases r1
  obtain ⟨its, r, pl, hz⟩ := I1.list hq
  have hlen : its.toArray.size = ns.length := by rw [List.size_toArray, ← r.length, List.length_map]
  refine call_set_list (I1.ok.hd hc) pl.isList (by simpa using RZ.intsAre_vals r) (by rw [hlen]; unfold scanBound; omega) fun h' tk hS hk => ?_
  refine PyProof.Rows.args_nil ?_
  rw [hlen, firstMet_dd] at hS
  obtain ⟨o, es, ep, t, ho, hex, hd, _, _, _, hf, hn⟩ := hS
  have I2 : Inv X pins σ H1 { s1 with heap := h', toks := tk } := I1.kept fun b o e => hk b o (Heap.lt_size e) e
  have hdl : (ddI ns).length ≤ ns.length := by rw [← firstMet_dd]; exact firstMet_length_le _ _
  exact call_len_set ho hex hd hf (by rw [hn] <;> omega) ⟨.int (ddI ns).length, H1, I2.tok _, ⟨_, by rw [hn]⟩, q1⟩
end
end Zz
/-! ZCmp: from the text to the small language. -/
namespace Zz
open PySem PySem.Spec PyProof.Rows L2

/-- names by slot; the scope that runs; the scope whose names may be stored; the defs, by name and number of parameters; whether gcd is math's -/
structure CC where
  N : List Str
  sc : Scope
  own : Scope
  fns : List (Str × Nat)
  gcd : Bool

def fnd (x : Str) : List Str → Option Nat
  | [] => none
  | y :: r => if x = y then some 0 else match fnd x r with | some i => some (i + 1) | none => none
theorem fnd_get {x : Str} : ∀ {l : List Str} {i : Nat}, fnd x l = some i → l[i]? = some x
  | [], _, e => by simp [fnd] at e
  | y :: r, i, e => by
    unfold fnd at e
    split at e
    · rename_i h; cases e; subst h; rfl
    · split at e
      · rename_i j hj; cases e; simpa using fnd_get hj
      · cases e
def fndF (x : Str) : List (Str × Nat) → Option (Nat × Nat)
  | [] => none
  | y :: r => if x = y.1 then some (0, y.2) else match fndF x r with | some (i, n) => some (i + 1, n) | none => none
theorem fndF_get {x : Str} : ∀ {l : List (Str × Nat)} {i n : Nat}, fndF x l = some (i, n) → l[i]? = some (x, n)
  | [], _, _, e => by simp [fndF] at e
  | y :: r, i, n, e => by
    unfold fndF at e
    split at e
    · rename_i h; cases e; subst h; rfl
    · split at e
      · rename_i j k hj; cases e; simpa using fndF_get hj
      · cases e

def visB (sc : Scope) (x : Str) : Bool := match sc.names.lookup x with | some .local => true | some .cell => true | some .free => true | _ => false
def locB (sc : Scope) (x : Str) : Bool := match sc.names.lookup x with | some .local => true | some .cell => true | _ => false
def glB (sc : Scope) (x : Str) : Bool := match sc.names.lookup x with | some .globalImplicit => true | _ => false

def cOp : Operator → Option Op
  | .Add => some .add | .Sub => some .sub | .Mult => some .mul | .FloorDiv => some .fdiv | .Mod => some .mod | .Pow => some .pow
  | _ => none
def cCop : CmpOp → Cop
  | .Eq => .eq | .NotEq => .ne | .Lt => .lt | .LtE => .le | .Gt => .gt | .GtE => .ge | .Is => .is | .IsNot => .isn | .In => .mem | .NotIn => .nmem
def cTy (x : Str) : Option Ty :=
  if x = "list" then some .list else if x = "tuple" then some .tuple else if x = "str" then some .str else if x = "bool" then some .bool else if x = "int" then some .int else none
def noStar : Expr → Bool
  | .Starred _ _ => false
  | _ => true

/-- a built-in by its name and number of arguments -/
def cBi (x : Str) (n : Nat) : Option Bi :=
  if x = "len" then (if n = 1 then some .len else none) else if x = "abs" then (if n = 1 then some .abs else none)
  else if x = "int" then (if n = 1 then some .int1 else none) else if x = "max" then (if n = 2 then some .max2 else none)
  else if x = "min" then (if n = 2 then some .min2 else none) else if x = "sum" then (if n = 1 then some .sum else none)
  else if x = "list" then (if n = 1 then some .list else none) else if x = "tuple" then (if n = 1 then some .tuple else none)
  else if x = "sorted" then (if n = 1 then some .sorted else none) else if x = "any" then (if n = 1 then some .any else none)
  else if x = "all" then (if n = 1 then some .all else none) else none

def mapO {α β : Type} (f : α → Option β) : List α → Option (List β)
  | [] => some []
  | a :: as => match f a, mapO f as with | some b, some bs => some (b :: bs) | _, _ => none

/-- a target of names -/
def cT : Nat → CC → Expr → Option T
  | 0, _, _ => none
  | n + 1, C, e => match e with
    | .Name x _ => if locB C.own x then (match fnd x C.N with | some i => some (.var i) | none => none) else none
    | .Tuple es _ _ => match mapO (cT n C) es with | some ts => some (.tup ts) | none => none
    | _ => none

/-- the own names of a comprehension's block -/
def ownN (N : List Str) : List (Str × NameKind) → List (Str × Nat)
  | [] => []
  | (x, k) :: r => if k = .local || k = .cell then (match fnd x N with | some i => (x, i) :: ownN N r | none => ownN N r) else ownN N r

/-- the scope as it runs in a block -/
def scR (scope sc : Scope) : Scope := relS scope sc

def range3 (f : Str) : Bool := f == ("range" : Str)

/-- what is called as f(..), given how arguments compile -/
def cCall (c : Expr → Option E) (C : CC) (f : Str) (args : List Expr) : Option E :=
  if glB C.sc f && !(f == ("__debug__" : Str)) then
    match fndF f C.fns with
    | some (i, n) => if args.length = n && n ≠ 0 then (match mapO c args with | some es => some (.call i false es) | none => none) else none
    | none =>
      if f = "gcd" then (if C.gcd && args.length = 2 then (match mapO c args with | some es => some (.bi .gcd es) | none => none) else none)
      else match cBi f args.length with
        | some b => match mapO c args with | some es => some (.bi b es) | none => none
        | none => none
  else none

/-- len(set(e)) -/
def lenSet (f : Str) (args : List Expr) : Option Expr :=
  if f = "len" then match args with
    | [.Call (.Name g _) [a] [] _] => if g = "set" then some a else none
    | _ => none
  else none
/-- list(range(..)) -/
def lstRng (f : Str) (args : List Expr) : Option (List Expr) :=
  if f = "list" then match args with
    | [.Call (.Name g _) as [] _] => if g = "range" then some as else none
    | _ => none
  else none
/-- isinstance(e, T), isinstance(e, (T, ..)) -/
def isiOf (sc : Scope) (f : Str) (args : List Expr) : Option (Expr × List Ty) :=
  if f = "isinstance" then match args with
    | [a, .Name t _] => if glB sc t then (match cTy t with | some t => some (a, [t]) | none => none) else none
    | [a, .Tuple ts _ _] => match mapO (fun e => match e with | .Name t _ => (if glB sc t then cTy t else none) | _ => none) ts with | some ts => if ts.length ≤ 8 then some (a, ts) else none | none => none
    | _ => none
  else none

/-- what is walked -/
def cI (c : Expr → Option E) (C : CC) (tup : Bool) (e : Expr) : Option E :=
  match e with
  | .Call (.Name f _) args [] _ =>
    if f = "range" then (if glB C.sc f && (args.length = 1 || args.length = 2 || args.length = 3) then (match mapO c args with | some es => some (.bi .range es) | none => none) else none)
    else if f = "enumerate" then (if glB C.sc f && tup && args.length = 1 then (match mapO c args with | some es => some (.bi .enum es) | none => none) else none)
    else if f = "zip" then (if glB C.sc f && tup && args.length = 2 then (match mapO c args with | some es => some (.bi .zip es) | none => none) else none)
    else if f = "reversed" then (if glB C.sc f && args.length = 1 then (match mapO c args with | some es => some (.bi .rev es) | none => none) else none)
    else c e
  | .Set _ _ _ => none
  | e => c e
def isTupE : Expr → Bool
  | .Tuple _ _ _ => true
  | _ => false

mutual
def tv : T → List Nat
  | .var i => [i]
  | .tup ts => tvs ts
def tvs : List T → List Nat
  | [] => []
  | t :: ts => tv t ++ tvs ts
end

def cE : Nat → CC → Expr → Option E
  | 0, _, _ => none
  | n + 1, C, e => match e with
    | .Constant c _ _ => match c with
      | .none => some (.lit .non)
      | .bool b => some (.lit (.bl b))
      | .int i => some (.lit (.int i))
      | .str s => some (.lit (.str s))
      | _ => none
    | .Name x _ => if visB C.sc x && !(x == ("__debug__" : Str)) && !(x == ("__classdict__" : Str)) then (match fnd x C.N with | some i => some (.var i) | none => none) else none
    | .BinOp a op b _ => match cOp op, cE n C a, cE n C b with | some o, some x, some y => some (.op o x y) | _, _, _ => none
    | .UnaryOp op a _ => match op, cE n C a with
      | .USub, some x => some (.neg x)
      | .Not, some x => some (.not x)
      | _, _ => none
    | .BoolOp op es _ => match mapO (cE n C) es with
      | some xs => if xs.isEmpty then none else (match op with | .And => some (.and xs) | .Or => some (.or xs))
      | none => none
    | .IfExp c a b _ => match cE n C c, cE n C a, cE n C b with | some x, some y, some z => some (.ite x y z) | _, _, _ => none
    | .Compare a ops bs _ => match cE n C a, mapO (cE n C) bs with
      | some x, some ys => if ops.length = ys.length && !ops.isEmpty then some (.cmp x (ops.map cCop) ys) else none
      | _, _ => none
    | .Tuple es _ _ => match mapO (cE n C) es with | some xs => some (.tup xs) | none => none
    | .List es _ => match mapO (cE n C) es with | some xs => some (.lst xs) | none => none
    | .Subscript a s _ => match s with
      | .Slice lo hi none _ => match cE n C a, mapO (cE n C) lo.toList, mapO (cE n C) hi.toList with
        | some x, some l, some h => some (.sl x l h)
        | _, _, _ => none
      | .Slice _ _ (some _) _ => none
      | s => match cE n C a, cE n C s with | some x, some i => some (.ix x i) | _, _ => none
    | .ListComp elt [g] sc _ =>
      if g.is_async = 0 && decide (g.ifs.length ≤ 1) && blkC C.N C.sc sc (ownN C.N sc.names) then
        let C' : CC := { C with sc := scR sc C.sc, own := sc }
        match cT n C' g.target, cI (cE n C) C (isTupE g.target) g.iter, mapO (cE n C') g.ifs, cE n C' elt with
        | some t, some it, some ifs, some x => if (tv t).all fun j => ((ownN C.N sc.names).map (·.2)).contains j then some (.comp ((ownN C.N sc.names).map (·.2)) t it ifs x) else none
        | _, _, _, _ => none
      else none
    | .Call (.Name f _) args [] _ =>
      match lenSet f args with
      | some a => if glB C.sc f && glB C.sc "set" && (fndF f C.fns).isNone && (fndF "set" C.fns).isNone then (match cE n C a with | some x => some (.bi .lenset [x]) | none => none) else none
      | none => match lstRng f args with
        | some as => if glB C.sc f && glB C.sc "range" && (fndF f C.fns).isNone && (fndF "range" C.fns).isNone && (as.length = 1 || as.length = 2) then (match mapO (cE n C) as with | some xs => some (.bi .range xs) | none => none) else none
        | none => match isiOf C.sc f args with
          | some (a, ts) => if glB C.sc f && (fndF f C.fns).isNone then (match cE n C a with | some x => some (.isi ts x) | none => none) else none
          | none => cCall (cE n C) C f args
    | _ => none

/-! ### how the model stores several names -/
def swNames (sc : Scope) (line : Nat) (ts : List Expr) : List Str := ts.filterMap fun
    | .Name id pos => if sc.names.lookup id == some .local && pos.line == line then some id else none
    | _ => none
/-- none: not said; some none: one after the other; some (some names): exchanged -/
def swS (sc : Scope) (ts vs : List Expr) : Option (Option (List Str)) :=
  if !(ts.length == 2 || ts.length == 3) || vs.length != ts.length then some none
  else
    let line := (ts.head?.map (·.pos.line)).getD 0
    let names := swNames sc line ts
    if names.length != ts.length || names.eraseDups.length != names.length then some none
    else if vs.all (foldedForSure 8) then some none
    else if vs.all (constantsAlone 8) then none
    else some (some names)
def compSw (sc : Scope) (x : Str) (pos : Pos) (e : Expr) : Bool :=
  match e with
  | .ListComp _ _ s p => sc.names.lookup x == some .local && pos.line == p.line && !(s.names.any fun (n, k) => n == x && (k == .local || k == .cell))
  | _ => false

/-- what gives a list that is new -/
def frE : E → Bool
  | .lst _ => true
  | .comp _ _ _ _ _ => true
  | .bi b _ => b == .list || b == .sorted || b == .range
  | .op o a b => (o == .add || o == .mul) && (frE a || frE b)
  | _ => false
/-- two names, two values, of which one is a new list -/
def pairF : T → E → Bool
  | .tup [.var _, .var _], .tup [a, b] => frE a || frE b
  | _, _ => false
def swd (sc : Scope) (ts : List Expr) (e : Expr) : Bool := match e with
  | .Tuple vs _ _ => (match swS sc ts vs with | some (some _) => true | _ => false)
  | _ => false

mutual
def cS : Nat → CC → Stmt → Option S
  | 0, _, _ => none
  | n + 1, C, st => match st with
    | .Assign [tg] e _ => match tg with
      | .Name _ _ => match cT n C tg, cE n C e with | some t, some x => some (.asg t x) | _, _ => none
      | .Subscript (.Name x _) i _ =>
        (match i with
        | .Slice _ _ _ _ => none
        | i => if visB C.sc x && !(x == ("__debug__" : Str)) && !(x == ("__classdict__" : Str)) then (match fnd x C.N, cE n C i, cE n C e with | some k, some y, some z => some (if x = "state" then .stS k y z else .sto k y z) | _, _, _ => none) else none)
      | .Tuple ts _ _ => match (match e with | .Tuple vs _ _ => (swS C.sc ts vs).isSome | _ => true) with
        | true => match cT n C tg, cE n C e with | some t, some x => if swd C.sc ts e || !pairF t x then some (.asg t x) else some (.asg t (.and [x])) | _, _ => none
        | false => none
      | _ => none
    | .Expr e _ => match e with
      | .Constant (.str _) _ _ => some .pass
      | .Call (.Attribute (.Name x _) m apos) args [] pos =>
        if visB C.sc x && !(x == ("__debug__" : Str)) && !(x == ("__classdict__" : Str)) && apos.endLine == pos.line then
          match fnd x C.N with
          | some k =>
            if m = "append" then (match args with | [a] => (match cE n C a with | some y => some (.app k y) | none => none) | _ => none)
            else if m = "remove" then (match args with | [a] => (match cE n C a with | some y => some (.rem k y) | none => none) | _ => none)
            else if m = "pop" then (match args with | [] => some (.pop k) | _ => none)
            else none
          | none => none
        else none
      | _ => none
    | .If c a b _ => match cE n C c, cSs n C a, cSs n C b with | some x, some p, some q => some (.ifs x p q) | _, _, _ => none
    | .While c b [] _ => match cE n C c, cSs n C b with | some x, some p => some (.whl x p) | _, _ => none
    | .For t it b [] _ => match cT n C t, cI (cE n C) C (isTupE t) it, cSs n C b with | some t, some i, some p => some (.for_ t i p) | _, _, _ => none
    | .Return (some e) _ => match cE n C e with | some x => some (.ret x) | none => none
    | .Return none _ => some (.ret (.lit .non))
    | .Pass _ => some .pass
    | _ => none
def cSs : Nat → CC → List Stmt → Option (List S)
  | 0, _, _ => none
  | n + 1, C, sts => match sts with
    | [] => some []
    | s :: ss => match cS n C s, cSs n C ss with | some x, some xs => some (x :: xs) | _, _ => none
end
end Zz
/-! ZInv: what a value of the evaluator tells of its parts. -/
namespace Zz
open PySem PySem.Spec PyProof.Rows L2
section
variable {P : Pr} {e : Env} {m m' : List D} {z : D}
theorem inv_op {o : Op} {a b : E} (h : evE P (.op o a b) e m = some (z, m')) : ∃ x m1 y, evE P a e m = some (x, m1) ∧ evE P b e m1 = some (y, m') ∧ opD o x y = some z := by
  simp only [evE] at h
  split at h
  · rename_i x m1 h1
    split at h
    · rename_i y m2 h2
      split at h
      · rename_i w h3; cases h; exact ⟨x, m1, y, h1, h2, h3⟩
      · cases h
    · cases h
  · cases h
theorem inv_neg {a : E} (h : evE P (.neg a) e m = some (z, m')) : ∃ i, evE P a e m = some (.int i, m') ∧ z = .int (-i) := by
  simp only [evE] at h
  split at h
  · rename_i i m1 h1; cases h; exact ⟨i, h1, rfl⟩
  · cases h
theorem inv_cmp {a : E} {os : List Cop} {bs : List E} (h : evE P (.cmp a os bs) e m = some (z, m')) : ∃ x m1 b, evE P a e m = some (x, m1) ∧ evCh P x os bs e m1 = some (b, m') ∧ z = .bl b := by
  simp only [evE] at h
  split at h
  · rename_i x m1 h1
    split at h
    · rename_i b m2 h2; cases h; exact ⟨x, m1, b, h1, h2, rfl⟩
    · cases h
  · cases h
theorem inv_not {a : E} (h : evE P (.not a) e m = some (z, m')) : ∃ x b, evE P a e m = some (x, m') ∧ truD P x = some b ∧ z = .bl (!b) := by
  simp only [evE] at h
  split at h
  · rename_i x m1 h1
    split at h
    · rename_i b h2; cases h; exact ⟨x, b, h1, h2, rfl⟩
    · cases h
  · cases h
theorem inv_ite {c a b : E} (h : evE P (.ite c a b) e m = some (z, m')) : ∃ x m1, evE P c e m = some (x, m1) ∧ ((truD P x = some true ∧ evE P a e m1 = some (z, m')) ∨ (truD P x = some false ∧ evE P b e m1 = some (z, m'))) := by
  simp only [evE] at h
  split at h
  · rename_i x m1 h1
    split at h
    · rename_i h2; exact ⟨x, m1, h1, .inl ⟨h2, h⟩⟩
    · rename_i h2; exact ⟨x, m1, h1, .inr ⟨h2, h⟩⟩
    · cases h
  · cases h
theorem inv_tup {es : List E} (h : evE P (.tup es) e m = some (z, m')) : ∃ xs, evEs P es e m = some (xs, m') ∧ lenOk xs.length = true ∧ z = .tup xs := by
  simp only [evE] at h
  split at h
  · rename_i xs m1 h1
    split at h
    · rename_i h2; cases h; exact ⟨xs, h1, h2, rfl⟩
    · cases h
  · cases h
theorem inv_lst {es : List E} (h : evE P (.lst es) e m = some (z, m')) : ∃ xs, evEs P es e m = some (xs, m') ∧ lenOk xs.length = true ∧ z = .lst xs := by
  simp only [evE] at h
  split at h
  · rename_i xs m1 h1
    split at h
    · rename_i h2; cases h; exact ⟨xs, h1, h2, rfl⟩
    · cases h
  · cases h
theorem inv_ix {a b : E} (h : evE P (.ix a b) e m = some (z, m')) : ∃ x m1 y, evE P a e m = some (x, m1) ∧ evE P b e m1 = some (y, m') ∧ ixD P m' x y = some z := by
  simp only [evE] at h
  split at h
  · rename_i x m1 h1
    split at h
    · rename_i y m2 h2
      split at h
      · rename_i w h3; cases h; exact ⟨x, m1, y, h1, h2, h3⟩
      · cases h
    · cases h
  · cases h
theorem inv_sl {a : E} {b c : List E} (h : evE P (.sl a b c) e m = some (z, m')) : ∃ x m1 y m2 w, evE P a e m = some (x, m1) ∧ evEs P b e m1 = some (y, m2) ∧ evEs P c e m2 = some (w, m') ∧ slD x y w = some z := by
  simp only [evE] at h
  split at h
  · rename_i x m1 h1
    split at h
    · rename_i y m2 h2
      split at h
      · rename_i w m3 h3
        split at h
        · rename_i v h4; cases h; exact ⟨x, m1, y, m2, w, h1, h2, h3, h4⟩
        · cases h
      · cases h
    · cases h
  · cases h
theorem inv_bi {b : Bi} {es : List E} (h : evE P (.bi b es) e m = some (z, m')) : ∃ xs, evEs P es e m = some (xs, m') ∧ biD P b xs = some z := by
  simp only [evE] at h
  split at h
  · rename_i xs m1 h1
    split at h
    · rename_i w h2; cases h; exact ⟨xs, h1, h2⟩
    · cases h
  · cases h
theorem inv_isi {ts : List Ty} {a : E} (h : evE P (.isi ts a) e m = some (z, m')) : ∃ x, evE P a e m = some (x, m') ∧ z = .bl (ts.any fun t => isT t x) := by
  simp only [evE] at h
  split at h
  · rename_i xs m1 h1; cases h; exact ⟨xs, h1, rfl⟩
  · cases h
theorem inv_call {f : Nat} {sc : Bool} {es : List E} (h : evE P (.call f sc es) e m = some (z, m')) : ∃ xs m1, evEs P es e m = some (xs, m1) ∧ P.call f xs m1 = some (z, m') := by
  simp only [evE] at h
  split at h
  · rename_i xs m1 h1; exact ⟨xs, m1, h1, h⟩
  · cases h
theorem inv_cons {a : E} {as : List E} {zs : List D} (h : evEs P (a :: as) e m = some (zs, m')) : ∃ x m1 xs, evE P a e m = some (x, m1) ∧ evEs P as e m1 = some (xs, m') ∧ zs = x :: xs := by
  simp only [evEs] at h
  split at h
  · rename_i x m1 h1
    split at h
    · rename_i xs m2 h2; cases h; exact ⟨x, m1, xs, h1, h2, rfl⟩
    · cases h
  · cases h
theorem inv_ch1 {x : D} {o : Cop} {b : E} {c : Bool} (h : evCh P x [o] [b] e m = some (c, m')) : ∃ y, evE P b e m = some (y, m') ∧ cmpD o x y = some c := by
  simp only [evCh] at h
  split at h
  · rename_i y m1 h1
    split at h
    · rename_i c' h2; cases h; exact ⟨y, h1, h2⟩
    · cases h
  · cases h
theorem inv_ch2 {x : D} {o o' : Cop} {os : List Cop} {b b' : E} {bs : List E} {c : Bool} (h : evCh P x (o :: o' :: os) (b :: b' :: bs) e m = some (c, m')) :
    ∃ y m1, evE P b e m = some (y, m1) ∧ ((cmpD o x y = some true ∧ evCh P y (o' :: os) (b' :: bs) e m1 = some (c, m')) ∨ (cmpD o x y = some false ∧ c = false ∧ m' = m1)) := by
  rw [evCh] at h
  split at h
  · rename_i y m1 h1
    split at h
    · rename_i h2; exact ⟨y, m1, h1, .inl ⟨h2, h⟩⟩
    · rename_i h2; cases h; exact ⟨_, _, h1, .inr ⟨h2, rfl, rfl⟩⟩
    · cases h
  · cases h
  · intro _ q; cases q
theorem inv_and2 {a b : E} {bs : List E} (h : evAnd P (a :: b :: bs) e m = some (z, m')) : ∃ x m1, evE P a e m = some (x, m1) ∧ ((truD P x = some true ∧ evAnd P (b :: bs) e m1 = some (z, m')) ∨ (truD P x = some false ∧ z = x ∧ m' = m1)) := by
  rw [evAnd] at h
  split at h
  · rename_i x m1 h1
    split at h
    · rename_i h2; exact ⟨x, m1, h1, .inl ⟨h2, h⟩⟩
    · rename_i h2; cases h; exact ⟨_, _, h1, .inr ⟨h2, rfl, rfl⟩⟩
    · cases h
  · cases h
  · intro q; cases q
theorem inv_or2 {a b : E} {bs : List E} (h : evOr P (a :: b :: bs) e m = some (z, m')) : ∃ x m1, evE P a e m = some (x, m1) ∧ ((truD P x = some false ∧ evOr P (b :: bs) e m1 = some (z, m')) ∨ (truD P x = some true ∧ z = x ∧ m' = m1)) := by
  rw [evOr] at h
  split at h
  · rename_i x m1 h1
    split at h
    · rename_i h2; exact ⟨x, m1, h1, .inl ⟨h2, h⟩⟩
    · rename_i h2; cases h; exact ⟨_, _, h1, .inr ⟨h2, rfl, rfl⟩⟩
    · cases h
  · cases h
  · intro q; cases q
theorem and1 {a : E} : evAnd P [a] e m = evE P a e m := by rw [evAnd]
theorem or1 {a : E} : evOr P [a] e m = evE P a e m := by rw [evOr]
theorem mapO_nil {α β : Type} {f : α → Option β} : mapO f [] = some [] := rfl
theorem mapO_cons {α β : Type} {f : α → Option β} {a : α} {as : List α} {bs : List β} (h : mapO f (a :: as) = some bs) : ∃ b bs', f a = some b ∧ mapO f as = some bs' ∧ bs = b :: bs' := by
  simp only [mapO] at h
  split at h
  · rename_i b bs' h1 h2; cases h; exact ⟨b, bs', h1, h2, rfl⟩
  · cases h
theorem mapO_len {α β : Type} {f : α → Option β} : ∀ {as : List α} {bs : List β}, mapO f as = some bs → as.length = bs.length
  | [], bs, h => by simp [mapO] at h; subst h; rfl
  | a :: as, bs, h => by
    obtain ⟨b, bs', _, h2, rfl⟩ := mapO_cons h
    simp [mapO_len h2]
end
end Zz
/-! ZEnum: enumerate over a tuple. -/
namespace Zz
open PySem PySem.Spec PyProof.Rows L2
theorem meets_enum0 {v : Value} {o : Obj} {H : Heap → Prop} (B : Begins v o H) :
    Meets (Builtin.«enumerate.__new__» ⟨[.type "enumerate", v], []⟩) (fun _ R s => H s.heap ∧
      R (.ok (.ret (.ref (s.heap.push o).objs.size))) { s with heap := (s.heap.push o).push { cls := .type "enumerate", data := .fields #[.none, .bool false, .ref s.heap.objs.size, rawInt 0, .none, .none] } }) :=
  .of_wp fun prog w A R s h => by
    obtain ⟨hp, g, d, tk, os⟩ := s; obtain ⟨h1, h⟩ := h
    have hsub := sub_enumerate
    have q1 : ∀ {A' : Around} {E : Value → Shared → Prop} {Q : Value → Shared → Prop}, Q (.ref hp.objs.size) ⟨hp.push o, g, d, tk, os⟩ → wpAny (model prog w) A' (pyIter v) Q E ⟨hp, g, d, tk, os⟩ :=
      fun q => B.iter prog w _ _ ⟨hp, g, d, tk, os⟩ _ h1 q
    wp_walk using q1
    refine wpAny_stack_any fun st => wpAny_pure ?_
    split
    · rename_i c _ _ _ _ _
      cases (c == Value.type "enumerate")
      · wp_walk using q1
        exact ⟨_, rfl, h⟩
      · wp_walk using q1
        exact ⟨_, rfl, h⟩
    · wp_walk using q1
      exact ⟨_, rfl, h⟩
section
variable {prog : Program} {w : World} {A : Around} {E : Value → Shared → Prop} {s : Shared}
theorem enum_begins0 {v : Value} {o : Obj} {H : Heap → Prop} {Q : Value → Shared → Prop} (B : Begins v o H) (h1 : H s.heap)
    (h : ∀ h', IsEnum h' (s.heap.objs.size + 1) s.heap.objs.size 0 .none → h'.get? s.heap.objs.size = some o → h'.objs.size = s.heap.objs.size + 2 →
      (∀ b o, s.heap.get? b = some o → h'.get? b = some o) → Q (.ref (s.heap.objs.size + 1)) { s with heap := h' }) :
    wpAny (model prog w) A (call (.type "enumerate") [v]) Q E s := by
  refine callType_new F.called_enumerate (by decide) (F.typeCall_enumerate_1 _) (F.newCall_enumerate_1 _) (fun obj => F.args_object_init_2 obj _) F.entry_enumerate_new
    (meets_enum0 B) ⟨h1, ?_⟩
  have hz : (s.heap.push o).objs.size = s.heap.objs.size + 1 := Heap.size_push ..
  show _ ∧ _
  rw [hz]
  have he : IsEnum ((s.heap.push o).push { cls := .type "enumerate", data := .fields #[.none, .bool false, .ref s.heap.objs.size, rawInt 0, .none, .none] }) (s.heap.objs.size + 1) s.heap.objs.size 0 .none := by
    have := Heap.get?_push_size (s.heap.push o) (o := { cls := .type "enumerate", data := .fields #[.none, .bool false, .ref s.heap.objs.size, rawInt 0, .none, .none] }) rfl
    rw [hz] at this; exact this
  refine ⟨⟨_, he, rfl⟩, h _ he (Heap.get?_push_of_some _ (Heap.get?_push_size _ B.free)) (by rw [Heap.size_push, hz]) fun b o x => Heap.get?_push_of_some _ (Heap.get?_push_of_some _ x)⟩
end
def IteT (K : PySem.W.Frag) (a : Addr) : It :=
  ⟨fun i H => ∃ (xs : List V) (x : V), SqT K H a xs ∧ xs[i]? = some x,
    fun i H v H' => ∃ T x, v = .ref T ∧ H T = none ∧ H' = upd H T (.tup [.int (i : Nat), x]) ∧ ∀ xs, SqT K H a xs → xs[i]? = some x,
    fun i H => ∃ xs : List V, SqT K H a xs ∧ xs.length ≤ i⟩
theorem walk_enumT {K : PySem.W.Frag} {a : Addr} {xs : List V} : Walk (IteT K a) xs.length (fun H => SqT K H a xs) (YPair (fun i => some (.int (i : Nat))) (fun i => xs[i]?)) :=
  ⟨fun i H hi q => ⟨xs, xs[i], q, List.getElem?_eq_getElem hi⟩, fun H q => ⟨xs, q, Nat.le_refl _⟩, fun i H x H' hi q y => by
    obtain ⟨T, z, e, hT, e', hz⟩ := y
    exact ⟨T, _, z, e, hT, e', rfl, hz xs q⟩⟩
theorem turn_enumT {P : Program} {w : World} {K : PySem.W.Frag} {elts : List Expr} {kk : Nat} {tpos : Pos} (a e it : Addr) (items : Array Value) (hai : a ≠ it) (hae : a ≠ e) :
    Turn P w K (.Tuple elts kk tpos) (IteT K a) [e, it] e (fun i h => (∃ old, IsEnum h e it ((i : Nat) : Int) old) ∧ h.IsTupleIter it a i ∧ e ≠ it) where
  mem := by simp
  obj := fun i h st b hb => by
    obtain ⟨⟨old, he⟩, ⟨o, ho, hc, hd⟩, _⟩ := st
    have e' : b = e ∨ b = it := by simpa using hb
    rcases e' with z | z
    · rw [z]; exact ⟨_, he, fun v q => nomatch q⟩
    · rw [z]; exact ⟨o, ho, fun v q => by rw [hd] at q; cases q⟩
  keep := fun i h h' st k => let ⟨⟨old, he⟩, hi, hne⟩ := st; ⟨⟨old, k e (by simp) _ he⟩, hi.at fun o q => k it (by simp) o q, hne⟩
  item := by
    intro X hP hw hK hc i pins s σ H E I hf st hg
    subst hP hw hK
    obtain ⟨⟨old, he⟩, hit, hne⟩ := st
    obtain ⟨xs, x, hq, hx⟩ := hg
    obtain ⟨its, rv, p, hz⟩ := I.tuple hq
    obtain ⟨u, hu, ru⟩ := rv.get hx
    have hel : e < s.heap.objs.size := Heap.lt_size he
    have hil : it < s.heap.objs.size := by obtain ⟨_, q, _⟩ := hit; exact Heap.lt_size q
    have hlt : i < its.toArray.size := by
      have : i < its.length := (List.getElem?_eq_some_iff.mp hu).1
      simpa using this
    refine wpAny_pyNext_enum_itemD (Draws.tuple (A := X.A.in1) (I.ok.hd hc) it a hai its.toArray) he ⟨hit, p⟩ hlt hne (by simp; exact ⟨hne, fun z => hae z.symm⟩) fun y h' tk hy ho st' hT hsz hk => ?_
    have hy' : y = u := by
      have e1 : its[i]? = some y := by simpa using hy
      rw [hu] at e1; exact (Option.some.inj e1).symm
    subst hy'
    refine ⟨_, rfl, wpAny_letOwnedTupleGo_enum (s := { s with heap := h', toks := tk + 1 }) ho fun h'' he' sb => ?_⟩
    have hT2 : h''.get? s.heap.objs.size = some { cls := .type "tuple", data := .seq #[.int i tk, y] } := (sb.2 _ (Nat.ne_of_gt hel)).trans hT
    have new : ObjOk X.prog X.w (upd H s.heap.objs.size (.tup [.int (i : Nat), x])) h'' s.heap.objs.size (.tup [.int (i : Nat), x]) :=
      ⟨by show 2 ≤ sizeLine; decide, [.int i tk, y], .cons ⟨_, rfl⟩ (.cons ru .nil), ⟨_, hT2, rfl, _, rfl⟩⟩
    have I1 : L2.Inv X pins σ (upd H s.heap.objs.size (.tup [.int (i : Nat), x])) { s with heap := h'', toks := tk + 1 } :=
      I.turnedNew (ch := [e, it]) (fun b ob hb q => (sb.2 b (fun z => hb (by simp [z]))).trans (hk b ob (fun z => hb (by simp [z])) (fun z => hb (by simp [z])) q)) hf (Nat.le_refl _) new
    refine ⟨.ref s.heap.objs.size, _, I1, rfl, ⟨_, x, rfl, I.hok.fresh (Nat.le_refl _), rfl, fun ys hy => by rw [I.tuple_inj hy hq]; exact hx⟩, ⟨⟨y, ?_⟩, st'.1.at fun o q => (sb.2 it (Ne.symm hne)).trans q, hne⟩, fun b hb => ?_⟩
    · have e1 : ((i + 1 : Nat) : Int) = (i : Int) + 1 := by omega
      rw [e1]; exact he'
    · have hb' : b < s.heap.objs.size := by
        have e' : b = e ∨ b = it := by simpa using hb
        rcases e' with z | z
        · rw [z]; exact hel
        · rw [z]; exact hil
      rw [upd_ne (Nat.ne_of_lt hb')]
      exact (hf b hb).1
  done := by
    intro X hP hw hK hc i pins s σ H E I hf st hg
    subst hP hw hK
    obtain ⟨⟨old, he⟩, hit, hne⟩ := st
    obtain ⟨xs, hq, hx⟩ := hg
    obtain ⟨its, rv, p, hz⟩ := I.tuple hq
    obtain ⟨f0, f1, f2, f3, f4, f5⟩ := hf it (by simp)
    have hl := rv.length
    have hh := I.ok.hd hc
    have hT : s.TypeIs (.ref e) "enumerate" := ⟨_, he, rfl⟩
    unfold pyNext
    refine wpAny_bind (wpAny_attempt (wpAny_callSpecial?_slot (name := Str.ofString "__next__") hT F.slot_enumerate_next
      (wpAny_call_entry F.slot_enumerate_next hT F.entry_enumerate_next ?_ (F.args_enumerate_next_1 _))))
    show wpAny _ _ (field (.ref e) 2 >>= _) _ _ _
    refine wpAny_bind (wpAny_field he rfl (x := .ref it) rfl ?_)
    refine wpAny_bind (wpAny_nextOf_tuple_end (items := its.toArray) hh hit p (by simp; omega) fun h' x he' hx' => ?_)
    obtain ⟨o, ho, hc'⟩ := hx'
    refine wpAny_bind (wpAny_isInstance (T := "StopIteration") (b := true) ⟨o, ho, hc'⟩ isSubtype_stop ?_)
    exact wpAny_pure ⟨rfl, I.turned (t' := s.toks) (fun b o hb q => he' b o hb q) f0 f1 f3 f4 f5⟩
  self := fun A i s Q E st h => let ⟨⟨_, he⟩, _⟩ := st; wpAny_pyIter_enum he h
def iEnumA (K : PySem.W.Frag) (ta : TA) : TI := fun σ H R => ta σ H fun vs H1 => ∃ a xs, vs = [.ref a] ∧ ((SqL K H1 a xs ∧ R (Ite K a) H1) ∨ (SqT K H1 a xs ∧ R (IteT K a) H1))
theorem pi_enumA {X : Cx} {e : Expr} {ta : TA} {p pos tpos : Pos} {elts : List Expr} {kk : Nat} (hg : Gl X "enumerate") (hm : X.mg "enumerate" = none) (ha : PA X [e] ta) (hs : starEach [e] X.env = [(false, eval e X.env)]) :
    PI X (.Tuple elts kk tpos) (.Call (.Name "enumerate" p) [e] [] pos) (iEnumA X.K ta) := by
  refine ⟨fun pins s σ H R I h => ?_⟩
  refine Call_ (ld_blt I hg hm boot_enumerate (PyProof.Rows.callWith_type1 (thn (ha.run pos pins s σ H _ I h) fun us s1 ⟨vs, H1, I1, r1, q1⟩ => ?_) hs rfl))
  obtain ⟨a, xs, ex, q1⟩ := q1
  subst ex
  have fr : ∀ b, b ∈ [s1.heap.objs.size + 1, s1.heap.objs.size] → FpOk X pins H1 b := fun b hb => by
    have e' : b = s1.heap.objs.size + 1 ∨ b = s1.heap.objs.size := by simpa using hb
    have hle : s1.heap.objs.size ≤ b := by
      rcases e' with z | z
      · rw [z]; exact Nat.le_add_right _ _
      · rw [z]; exact Nat.le_refl _
    exact I1.fpOk hle (I1.hok.fresh hle)
  cases r1 with
  | cons r rr =>
    cases rr
    cases r
    rcases q1 with ⟨hq, q⟩ | ⟨hq, q⟩
    · obtain ⟨its, rv, p', hz⟩ := I1.list hq
      refine call_enumerate_list p'.isList fun h' he hit hsz hk => wpAny_pyIter_enum he ?_
      have I2 : L2.Inv X pins σ H1 { s1 with heap := h' } := I1.kept (t' := s1.toks) hk
      exact ⟨s1.heap.objs.size + 1, [s1.heap.objs.size + 1, s1.heap.objs.size], _, _, H1, rfl, I2, turn_enum a (s1.heap.objs.size + 1) s1.heap.objs.size, ⟨⟨.none, he⟩, hit, Nat.succ_ne_self _⟩, fr, q⟩
    · obtain ⟨its, rv, p', hz⟩ := I1.tuple hq
      have hal : a < s1.heap.objs.size := by obtain ⟨o, ho, _⟩ := p'; exact Heap.lt_size ho
      refine enum_begins0 (begins_tuple a its.toArray) p' fun h' he ho hsz hk => wpAny_pyIter_enum he ?_
      have I2 : L2.Inv X pins σ H1 { s1 with heap := h' } := I1.kept (t' := s1.toks) hk
      exact ⟨s1.heap.objs.size + 1, [s1.heap.objs.size + 1, s1.heap.objs.size], _, _, H1, rfl, I2, turn_enumT a (s1.heap.objs.size + 1) s1.heap.objs.size its.toArray (Nat.ne_of_lt hal) (Nat.ne_of_lt (Nat.lt_succ_of_lt hal)), ⟨⟨.none, he⟩, ⟨_, ho, rfl, rfl⟩, Nat.succ_ne_self _⟩, fr, q⟩
end Zz
/-! ZSnd: what the evaluator says of an expression is what the model does. -/
namespace Zz
open PySem PySem.Spec PyProof.Rows L2

/-! ### what is stored -/
def stv (e : E) (l : List Nat) : List Nat := match e with | .var i => [i] | _ => l
mutual
/-- the names whose lists are stored somewhere, when e is read (t: tested) -/
def sv (t : Bool) : E → List Nat
  | .var _ => []
  | .lit _ => []
  | .op _ a b => sv false a ++ sv false b
  | .neg a => sv false a
  | .cmp a _ bs => sv false a ++ svL false bs
  | .and es => if t then svL true es else svM es
  | .or es => if t then svL true es else svM es
  | .not a => sv t a
  | .ite c a b => sv true c ++ (if t then sv true a ++ sv true b else stv a (sv false a) ++ stv b (sv false b))
  | .tup es => svM es
  | .lst es => svM es
  | .ix a i => sv false a ++ sv false i
  | .sl a l h => sv false a ++ (svL false l ++ svL false h)
  | .bi _ es => svL false es
  | .isi _ a => sv false a
  | .call _ _ es => svM es
  | .comp own _ it ifs x => own ++ (sv false it ++ (svL true ifs ++ stv x (sv false x)))
def svL (t : Bool) : List E → List Nat
  | [] => []
  | a :: as => sv t a ++ svL t as
def svM : List E → List Nat
  | [] => []
  | a :: as => stv a (sv false a) ++ svM as
end
def svS (st : Bool) (e : E) : List Nat := if st then stv e (sv false e) else sv false e
def svSL (st : Bool) (es : List E) : List Nat := if st then svM es else svL false es

/-! ### the state -/
def Zs (Γ : List Nat) (σ : L2.St) (Z0 : Addr → Prop) : Addr → Prop := fun a => Z0 a ∨ ∃ i, i ∈ Γ ∧ σ[i]? = some (some (.ref a))
structure SR (G : Gh) (K : PySem.W.Frag) (Γ : List Nat) (Z0 : Addr → Prop) (σ : L2.St) (H : Hp) (env : Env) (m : List D) : Prop where
  len : env.length = σ.length
  amb : Amb G K (Zs Γ σ Z0) H m
  zsa : Z0 G.sa
  vals : ∀ (i : Nat) d, env[i]? = some (some d) → i ∉ Γ → ∃ v, σ[i]? = some (some v) ∧ Rep G (Zs Γ σ Z0) H d v
  owns : ∀ i, i ∈ Γ → ∃ a vs ds, env[i]? = some (some (.lst ds)) ∧ σ[i]? = some (some (.ref a)) ∧ H a = some (.lst vs) ∧ Reps G (Zs Γ σ Z0) H ds vs ∧ ¬ Z0 a
  dist : ∀ i j : Nat, i ∈ Γ → j ∈ Γ → i ≠ j → σ[i]? ≠ σ[j]?
def StR (G : Gh) (Z : Addr → Prop) (H : Hp) (m : List D) : Prop := ∃ vs, H G.sa = some (.lst vs) ∧ Reps G Z H m vs
def RepB (G : Gh) (st : Bool) (Z : Addr → Prop) (H : Hp) (d : D) (v : V) : Prop := match st with | true => Rep G Z H d v | false => RepO G Z H d v
inductive RepsB (G : Gh) (st : Bool) (Z : Addr → Prop) (H : Hp) : List D → List V → Prop
  | nil : RepsB G st Z H [] []
  | cons {d : D} {v : V} {ds : List D} {vs : List V} : RepB G st Z H d v → RepsB G st Z H ds vs → RepsB G st Z H (d :: ds) (v :: vs)

section
variable {G : Gh} {P : Pr} {k : Nat} {C : CC} {X : Cx} {K : PySem.W.Frag} {Γ : List Nat} {Z Z0 : Addr → Prop} {σ : L2.St} {H H' H1 : Hp} {env : Env} {m m' m1 : List D} {st : Bool} {d : D} {v : V}

theorem RepB.o (r : RepB G st Z H d v) : RepO G Z H d v := by cases st with | true => exact .inl r | false => exact r
theorem RepB.of (r : Rep G Z H d v) : RepB G st Z H d v := by cases st with | true => exact r | false => exact .inl r
theorem RepsB.o : ∀ {ds : List D} {vs : List V}, RepsB G st Z H ds vs → RepsO G Z H ds vs
  | _, _, .nil => .nil
  | _, _, .cons r t => .cons r.o (RepsB.o t)
theorem RepsB.r : ∀ {ds : List D} {vs : List V}, RepsB G true Z H ds vs → Reps G Z H ds vs
  | _, _, .nil => .nil
  | _, _, .cons r t => .cons r (RepsB.r t)
theorem Amb.repB (A : Amb G K Z H m) (x : Ext G H H') (r : RepB G st Z H d v) : RepB G st Z H' d v := by
  cases st with
  | true => exact A.rep x r
  | false => exact A.repO x r
theorem Amb.repsB (A : Amb G K Z H m) (x : Ext G H H') : ∀ {ds : List D} {vs : List V}, RepsB G st Z H ds vs → RepsB G st Z H' ds vs
  | _, _, .nil => .nil
  | _, _, .cons r t => .cons (A.repB x r) (Amb.repsB A x t)
theorem StR.new {m : List D} (A : Amb G K Z H m) {p : Addr} {o : HO} (h : H p = none) : StR G (fun b => Z b ∨ b = p) (upd H p o) m := by
  obtain ⟨vs, q, r⟩ := A.st
  have hne : G.sa ≠ p := ne_of_none q h
  refine ⟨vs, by rw [upd_ne hne]; exact q, r.mono (fun b o' _ e => by rw [upd_ne (ne_of_none e h)]; exact e) fun b o' z e => ?_⟩
  rcases z with z | rfl
  · exact z
  · rw [h] at e; cases e
theorem Amb.stR (A : Amb G K Z H m) : StR G Z H m := A.st
theorem SR.next (S : SR G K Γ Z0 σ H env m) (x : Ext G H H') (s : StR G (Zs Γ σ Z0) H' m') : SR G K Γ Z0 σ H' env m' where
  len := S.len
  amb := S.amb.next x s
  zsa := S.zsa
  vals := fun i d e n => let ⟨v, h1, h2⟩ := S.vals i d e n; ⟨v, h1, S.amb.rep x h2⟩
  owns := fun i hi => by
    obtain ⟨a, vs, ds, h1, h2, h3, h4, h5⟩ := S.owns i hi
    exact ⟨a, vs, ds, h1, h2, x a _ (fun e => h5 (e ▸ S.zsa)) h3, S.amb.reps x h4, h5⟩
  dist := S.dist
theorem getE_iff {e : Env} {i : Nat} {d : D} : getE e i = some d ↔ e[i]? = some (some d) := by
  unfold getE
  split
  · rename_i d' h; rw [h]; simp
  · rename_i h
    constructor
    · intro q; cases q
    · intro q; exact absurd q (h d)
theorem SR.get (S : SR G K Γ Z0 σ H env m) {i : Nat} (e : getE env i = some d) (n : st = true → i ∉ Γ) : ∃ v, σ[i]? = some (some v) ∧ RepB G st (Zs Γ σ Z0) H d v := by
  have e := getE_iff.mp e
  by_cases hi : i ∈ Γ
  · obtain ⟨a, vs, ds, h1, h2, h3, h4, h5⟩ := S.owns i hi
    rw [e] at h1; cases h1
    refine ⟨.ref a, h2, ?_⟩
    cases st with
    | true => exact absurd hi (n rfl)
    | false => exact .inr ⟨a, vs, ds, rfl, rfl, h3, h4, fun q => h5 (q ▸ S.zsa)⟩
  · obtain ⟨v, h1, h2⟩ := S.vals i d e hi
    exact ⟨v, h1, .of h2⟩

/-! ### readings -/
def tD (G : Gh) (K : PySem.W.Frag) (P : Pr) (Γ : List Nat) (st : Bool) (ir : E) : TE := fun σ H Q =>
  ∃ Z0 env m d m', SR G K Γ Z0 σ H env m ∧ evE P ir env m = some (d, m') ∧ ∀ v H', Ext G H H' → StR G (Zs Γ σ Z0) H' m' → RepB G st (Zs Γ σ Z0) H' d v → Q v H'
def tDs (G : Gh) (K : PySem.W.Frag) (P : Pr) (Γ : List Nat) (st : Bool) (irs : List E) : TA := fun σ H Q =>
  ∃ Z0 env m ds m', SR G K Γ Z0 σ H env m ∧ evEs P irs env m = some (ds, m') ∧ ∀ vs H', Ext G H H' → StR G (Zs Γ σ Z0) H' m' → RepsB G st (Zs Γ σ Z0) H' ds vs → Q vs H'
def tT (G : Gh) (K : PySem.W.Frag) (P : Pr) (Γ : List Nat) (ir : E) : TT := fun σ H Q =>
  ∃ Z0 env m d m' b, SR G K Γ Z0 σ H env m ∧ evE P ir env m = some (d, m') ∧ truD P d = some b ∧ ∀ H', Ext G H H' → StR G (Zs Γ σ Z0) H' m' → Q b H'

theorem PE_imp {e : Expr} {t t' : TE} (h : PE X e t) (i : ∀ σ H Q, t' σ H Q → t σ H Q) : PE X e t' := ⟨fun pins s σ H Q I q => h.run pins s σ H Q I (i σ H Q q)⟩
theorem PT_imp {e : Expr} {t t' : TT} (h : PT X e t) (i : ∀ σ H Q, t' σ H Q → t σ H Q) : PT X e t' := ⟨fun pins s σ H Q I q => h.run pins s σ H Q I (i σ H Q q)⟩
theorem PW_imp {e : Expr} {t t' : TT} (h : PW X e t) (i : ∀ σ H Q, t' σ H Q → t σ H Q) : PW X e t' := ⟨fun w pins s σ H Q I q => h.run w pins s σ H Q I (i σ H Q q)⟩
theorem PA_imp {e : List Expr} {t t' : TA} (h : PA X e t) (i : ∀ σ H Q, t' σ H Q → t σ H Q) : PA X e t' := ⟨fun p pins s σ H Q I q => h.run p pins s σ H Q I (i σ H Q q)⟩
theorem tD_mono {ir : E} {Q Q' : VK} (h : tD G K P Γ st ir σ H Q) (i : ∀ v H', Q v H' → Q' v H') : tD G K P Γ st ir σ H Q' := by
  obtain ⟨Z0, env, m, d, m', S, e, q⟩ := h
  exact ⟨Z0, env, m, d, m', S, e, fun v H' a b c => i _ _ (q v H' a b c)⟩

theorem tD_two {st1 st2 : Bool} {a b : E} {x y : D} {m2 : List D} (S : SR G K Γ Z0 σ H env m) (ea : evE P a env m = some (x, m1)) (eb : evE P b env m1 = some (y, m2)) {R : V → V → Hp → Prop}
    (h : ∀ u w H2, Ext G H H2 → StR G (Zs Γ σ Z0) H2 m2 → RepB G st1 (Zs Γ σ Z0) H2 x u → RepB G st2 (Zs Γ σ Z0) H2 y w → R u w H2) :
    tD G K P Γ st1 a σ H (fun u H1 => tD G K P Γ st2 b σ H1 (fun w H2 => R u w H2)) :=
  ⟨Z0, env, m, x, m1, S, ea, fun u H1 x1 s1 r1 => ⟨Z0, env, m1, y, m2, S.next x1 s1, eb, fun w H2 x2 s2 r2 => h u w H2 (x1.trans x2) s2 ((S.next x1 s1).amb.repB x2 r1) r2⟩⟩

/-! ### the context -/
def spI (G : Gh) (K : PySem.W.Frag) (P : Pr) (i n : Nat) : Sp := fun vs H Q _ => ∃ Z ds m d m', vs.length = n ∧ Amb G K Z H m ∧ Reps G Z H ds vs ∧ P.call i ds m = some (d, m') ∧
  ∀ v H', Ext G H H' → StR G Z H' m' → Rep G Z H' d v → Q v H'
def bltNames : List Str := ["len", "abs", "int", "max", "min", "sum", "list", "tuple", "sorted", "any", "all", "set", "range", "enumerate", "zip", "reversed", "isinstance", "str", "bool"]
structure Good (G : Gh) (P : Pr) (k : Nat) (C : CC) (X : Cx) : Prop where
  ns : P.ns = G.ns
  N : X.N = C.N
  nd : C.N.Nodup
  sc : X.env.scope = C.sc
  kind : C.sc.kind = .function
  calm : X.calm = true
  xe : X.xe = fun _ _ => False
  room : Room k X.A
  stor : ∀ x, locB C.own x = true → Loc C.sc x ∧ (X.fn x = true ∨ C.sc.names.lookup x = some .local)
  free : ∀ x, x ∈ bltNames → X.mg x = none
  gcd : C.gcd = true → X.mg "gcd" = some (.builtin "math.gcd")
  call : ∀ i x n, C.fns[i]? = some (x, n) → ∃ a fd ps, X.mg x = some (.ref a) ∧ PySem.W.keepIn X.K (.ref a) = true ∧ Binds X.K fd ps [] ∧ FnOk X.prog X.w X.K X.mg X.base CX0 k a fd ps (spI G X.K P i n)

theorem Good.hu (g : Good G P k C X) : X.A.units + 65 < cLine := by have := g.room.un; omega
theorem visB_vis {sc : Scope} {x : Str} (h : visB sc x = true) : Vis sc x := by
  unfold visB at h
  split at h
  · rename_i e; exact .inl e
  · rename_i e; exact .inr (.inl e)
  · rename_i e; exact .inr (.inr e)
  · cases h
theorem glB_gl (g : Good G P k C X) {x : Str} (h : glB C.sc x = true) : Gl X x := by
  unfold glB at h
  split at h
  · rename_i e
    show X.env.kindOf x = _
    unfold Env.kindOf
    rw [g.sc]; exact e
  · cases h
theorem star1 {e : Expr} {es : List Expr} {env : PySem.Env} (h : noStar e = true) : starEach (e :: es) env = (false, eval e env) :: starEach es env := by
  cases e <;> first | rfl | (simp [noStar] at h)
theorem stars_any {pos : Pos} {env : PySem.Env} : ∀ {es : List Expr}, es.all noStar = true → (backTo pos (starEach es env)).any (·.1) = false
  | [], _ => rfl
  | e :: es, h => by
    rw [List.all_cons, Bool.and_eq_true] at h
    rw [star1 h.1]
    have ih := stars_any (pos := pos) (env := env) h.2
    unfold backTo at ih ⊢
    rw [List.map_cons, List.any_cons, ih]; rfl
theorem cE_star {n : Nat} {e : Expr} {ir : E} (h : cE n C e = some ir) : noStar e = true := by
  cases n with
  | zero => simp [cE] at h
  | succ n => cases e <;> first | rfl | (simp [cE] at h)
theorem cEs_star {n : Nat} : ∀ {es : List Expr} {irs : List E}, mapO (cE n C) es = some irs → es.all noStar = true
  | [], _, _ => rfl
  | e :: es, irs, h => by
    obtain ⟨b, bs, h1, h2, _⟩ := mapO_cons h
    rw [List.all_cons, Bool.and_eq_true]
    exact ⟨cE_star h1, cEs_star h2⟩
theorem cE_mark {n : Nat} {e : Expr} {ir : E} (h : cE n C e = some ir) (op : CmpOp) : behindInMarks op e = false := by
  cases n with
  | zero => simp [cE] at h
  | succ n => cases e <;> first | rfl | (simp [cE] at h)
theorem cE_plain {n : Nat} {e : Expr} {ir : E} (h : cE n C e = some ir) : PlainIx e := by
  intro o i
  cases n with
  | zero => simp [cE] at h
  | succ n => cases e <;> first | rfl | (simp [cE] at h)
theorem cE_fold {n : Nat} {e : Expr} {ir : E} (h : cE n C e = some ir) (env : PySem.Env) (x : Value) : foldedSetIterable e env x = pure x := by
  cases n with
  | zero => simp [cE] at h
  | succ n => cases e <;> first | rfl | (simp [cE] at h)

/-- the induction's word -/
structure IH (n : Nat) : Prop where
  e : ∀ (G : Gh) (P : Pr) (k : Nat) (C : CC) (X : Cx) (Γ : List Nat) (e : Expr) (ir : E) (st : Bool), cE n C e = some ir → Good G P k C X → (∀ i, i ∈ svS st ir → i ∉ Γ) → PE X e (tD G X.K P Γ st ir)
  t : ∀ (G : Gh) (P : Pr) (k : Nat) (C : CC) (X : Cx) (Γ : List Nat) (e : Expr) (ir : E), cE n C e = some ir → Good G P k C X → (∀ i, i ∈ sv true ir → i ∉ Γ) → PT X e (tT G X.K P Γ ir)

theorem sv_sub {ir : E} {st : Bool} : ∀ i, i ∈ sv false ir → i ∈ svS st ir := by
  intro i h
  cases st with
  | false => exact h
  | true =>
    unfold svS; rw [if_pos rfl]
    cases ir <;> first | exact h | (simp [sv] at h)

/-- arguments -/
theorem pas {n : Nat} (ih : IH n) (g : Good G P k C X) : ∀ {es : List Expr} {irs : List E}, mapO (cE n C) es = some irs → (∀ i, i ∈ svSL st irs → i ∉ Γ) → PA X es (tDs G X.K P Γ st irs)
  | [], irs, h, hs => by
    simp only [mapO, Option.some.injEq] at h; subst h
    refine PA_imp pa_nil fun σ H Q ⟨Z0, env, m, ds, m', S, e, q⟩ => ?_
    simp only [evEs, Option.some.injEq, Prod.mk.injEq] at e
    obtain ⟨rfl, rfl⟩ := e
    exact q _ _ (Ext.refl _) S.amb.st .nil
  | e :: es, irs, h, hs => by
    obtain ⟨ir, irs, h1, h2, rfl⟩ := mapO_cons h
    have s1 : ∀ i, i ∈ svS st ir → i ∉ Γ := fun i hi => hs i (by
      cases st with
      | true => exact List.mem_append_left _ hi
      | false => exact List.mem_append_left _ hi)
    have s2 : ∀ i, i ∈ svSL st irs → i ∉ Γ := fun i hi => hs i (by
      cases st with
      | true => exact List.mem_append_right _ hi
      | false => exact List.mem_append_right _ hi)
    refine PA_imp (pa_cons (ih.e G P k C X Γ e ir st h1 g s1) (pas ih g h2 s2) (star1 (cE_star h1))) fun σ H Q ⟨Z0, env, m, ds, m', S, ev, q⟩ => ?_
    obtain ⟨x, m1, xs, e1, e2, rfl⟩ := inv_cons ev
    exact ⟨Z0, env, m, x, m1, S, e1, fun u H1 x1 st1 r1 => ⟨Z0, env, m1, xs, m', S.next x1 st1, e2, fun us H2 x2 st2 r2 => q _ _ (x1.trans x2) st2 (.cons ((S.next x1 st1).amb.repB x2 r1) r2)⟩⟩

/-- comparisons in a row: as a value -/
theorem chain_v {n : Nat} (ih : IH n) (g : Good G P k C X) {pins : List (Addr × Obj)} {pos : Pos} {Q : VK} : ∀ (ops : List CmpOp) (bs : List Expr) (irs : List E) (s : Shared) (H : Hp) (m : List D) (x : D) (v : V) (u : Value) (c : Bool),
    mapO (cE n C) bs = some irs → ops.length = irs.length → ops ≠ [] → (∀ i, i ∈ svL false irs → i ∉ Γ) → SR G X.K Γ Z0 σ H env m → L2.Inv X pins σ H s → RepO G (Zs Γ σ Z0) H x v → RelV v u → evCh P x (ops.map cCop) irs env m = some (c, m') →
    (∀ H', Ext G H H' → StR G (Zs Γ σ Z0) H' m' → Q (.bl c) H') → wpAny (model X.prog X.w) X.A (compareChain pos u ops (evalEach bs X.env)) (EP X pins σ Q) X.xe s := by
  intro ops
  induction ops with
  | nil => intro bs irs s H m x v u c _ _ h; exact absurd rfl h
  | cons op ops ihops =>
    intro bs irs s H m x v u c hb hl _ hs S I rx ru ev q
    cases bs with
    | nil => simp only [mapO, Option.some.injEq] at hb; subst hb; simp at hl
    | cons b bs =>
      obtain ⟨ib, irs, h1, h2, rfl⟩ := mapO_cons hb
      have sb : ∀ i, i ∈ svS false ib → i ∉ Γ := fun i hi => hs i (List.mem_append_left _ hi)
      have sr : ∀ i, i ∈ svL false irs → i ∉ Γ := fun i hi => hs i (List.mem_append_right _ hi)
      have pb := ih.e G P k C X Γ b ib false h1 g sb
      have hcop : pyCop (cCop op) = op := by cases op <;> rfl
      have hop := cmpR (X := X) (G := G) g.hu (cCop op)
      rw [hcop] at hop
      cases ops with
      | nil =>
        cases irs with
        | cons _ _ => simp at hl
        | nil =>
          cases bs with
          | cons b' bs' => obtain ⟨_, _, _, _, z⟩ := mapO_cons h2; cases z
          | nil =>
            obtain ⟨y, e1, e2⟩ := inv_ch1 ev
            show wpAny _ _ (compareChain pos u [op] [eval b X.env]) _ _ _
            refine chain_last (thn (pb.run pins s σ H _ I ⟨Z0, env, m, y, m', S, e1, fun w H1 x1 st1 r1 => (⟨x1, st1, r1⟩ : Ext G H H1 ∧ StR G (Zs Γ σ Z0) H1 m' ∧ RepB G false (Zs Γ σ Z0) H1 y w)⟩) fun w s1 ⟨wv, H1, I1, r1, x1, st1, rb⟩ => ?_)
            exact hop pins s1 σ H1 v wv u w _ I1 ru r1 ⟨Zs Γ σ Z0, m', x, y, .bl c, (S.next x1 st1).amb, S.amb.repO x1 rx, rb, by simp [cmpV, e2], fun v' H' nw => by
              have r' := nw.rep
              cases r'; exact q H' (x1.trans (Ext.of nw.same)) ((S.next x1 st1).amb.same nw.same).st⟩
      | cons op' ops' =>
        cases irs with
        | nil => simp at hl
        | cons ib' irs' =>
          cases bs with
          | nil => simp [mapO] at h2
          | cons b' bs' =>
            obtain ⟨y, m1, e1, e2⟩ := inv_ch2 ev
            show wpAny _ _ (compareChain pos u (op :: op' :: ops') (eval b X.env :: eval b' X.env :: evalEach bs' X.env)) _ _ _
            refine chain_link (thn (pb.run pins s σ H _ I ⟨Z0, env, m, y, m1, S, e1, fun w H1 x1 st1 r1 => (⟨x1, st1, r1⟩ : Ext G H H1 ∧ StR G (Zs Γ σ Z0) H1 m1 ∧ RepB G false (Zs Γ σ Z0) H1 y w)⟩) fun w s1 ⟨wv, H1, I1, r1, x1, st1, rb⟩ => ?_)
            have S1 := S.next x1 st1
            have fin : ∀ c', cmpD (cCop op) x y = some c' → wpAny (model X.prog X.w) X.A (compareOp op u w) (EP X pins σ (fun z H2 => z = .bl c' ∧ Same H1 H2)) X.xe s1 := fun c' hc' =>
              hop pins s1 σ H1 v wv u w _ I1 ru r1 ⟨Zs Γ σ Z0, m1, x, y, .bl c', S1.amb, S.amb.repO x1 rx, rb, by simp [cmpV, hc'], fun v' H' nw => by have r' := nw.rep; cases r'; exact ⟨rfl, nw.same⟩⟩
            rcases e2 with ⟨hc, e2⟩ | ⟨hc, rfl, rfl⟩
            · refine thn (fin true hc) fun z s2 ⟨zv, H2, I2, r2, ez, sm⟩ => ?_
              subst ez
              cases r2
              refine wpAny_truthy_bool (ite_tt ?_)
              have S2 := S1.next (Ext.of sm) ((S1.amb.same sm).st)
              exact ihops (b' :: bs') (ib' :: irs') s2 H2 m1 y wv w c h2 (by simpa using hl) (by simp) sr S2 I2 (S1.amb.repO (Ext.of sm) rb) r1 e2 fun H' x' st' => q H' ((x1.trans (Ext.of sm)).trans x') st'
            · refine thn (fin false hc) fun z s2 ⟨zv, H2, I2, r2, ez, sm⟩ => ?_
              subst ez
              cases r2
              refine wpAny_truthy_bool (ite_ff ⟨.bl false, H2, I2, rfl, q H2 (x1.trans (Ext.of sm)) (S1.amb.same sm).st⟩)
/-- as a test -/
theorem chain_t {n : Nat} (ih : IH n) (g : Good G P k C X) {pins : List (Addr × Obj)} {pos : Pos} {Q : Bool → Hp → Prop} : ∀ (ops : List CmpOp) (bs : List Expr) (irs : List E) (s : Shared) (H : Hp) (m : List D) (x : D) (v : V) (u : Value) (c : Bool),
    mapO (cE n C) bs = some irs → ops.length = irs.length → ops ≠ [] → (∀ i, i ∈ svL false irs → i ∉ Γ) → SR G X.K Γ Z0 σ H env m → L2.Inv X pins σ H s → RepO G (Zs Γ σ Z0) H x v → RelV v u → evCh P x (ops.map cCop) irs env m = some (c, m') →
    (∀ H', Ext G H H' → StR G (Zs Γ σ Z0) H' m' → Q c H') → wpAny (model X.prog X.w) X.A (testChain pos u ops (evalEach bs X.env)) (TP X pins σ Q) X.xe s := by
  intro ops
  induction ops with
  | nil => intro bs irs s H m x v u c _ _ h; exact absurd rfl h
  | cons op ops ihops =>
    intro bs irs s H m x v u c hb hl _ hs S I rx ru ev q
    cases bs with
    | nil => simp only [mapO, Option.some.injEq] at hb; subst hb; simp at hl
    | cons b bs =>
      obtain ⟨ib, irs, h1, h2, rfl⟩ := mapO_cons hb
      have sb : ∀ i, i ∈ svS false ib → i ∉ Γ := fun i hi => hs i (List.mem_append_left _ hi)
      have sr : ∀ i, i ∈ svL false irs → i ∉ Γ := fun i hi => hs i (List.mem_append_right _ hi)
      have pb := ih.e G P k C X Γ b ib false h1 g sb
      have hcop : pyCop (cCop op) = op := by cases op <;> rfl
      have hop := cmpR (X := X) (G := G) g.hu (cCop op)
      rw [hcop] at hop
      cases ops with
      | nil =>
        cases irs with
        | cons _ _ => simp at hl
        | nil =>
          cases bs with
          | cons b' bs' => obtain ⟨_, _, _, _, z⟩ := mapO_cons h2; cases z
          | nil =>
            obtain ⟨y, e1, e2⟩ := inv_ch1 ev
            show wpAny _ _ (testChain pos u [op] [eval b X.env]) _ _ _
            refine test_last (thn (pb.run pins s σ H _ I ⟨Z0, env, m, y, m', S, e1, fun w H1 x1 st1 r1 => (⟨x1, st1, r1⟩ : Ext G H H1 ∧ StR G (Zs Γ σ Z0) H1 m' ∧ RepB G false (Zs Γ σ Z0) H1 y w)⟩) fun w s1 ⟨wv, H1, I1, r1, x1, st1, rb⟩ => ?_)
            refine thn (hop pins s1 σ H1 v wv u w (fun z H2 => z = .bl c ∧ Same H1 H2) I1 ru r1 ⟨Zs Γ σ Z0, m', x, y, .bl c, (S.next x1 st1).amb, S.amb.repO x1 rx, rb, by simp [cmpV, e2], fun v' H' nw => by have r' := nw.rep; cases r'; exact ⟨rfl, nw.same⟩⟩) fun z s2 ⟨zv, H2, I2, r2, ez, sm⟩ => ?_
            subst ez
            cases r2
            exact wpAny_truthy_bool ⟨H2, I2, q H2 (x1.trans (Ext.of sm)) ((S.next x1 st1).amb.same sm).st⟩
      | cons op' ops' =>
        cases irs with
        | nil => simp at hl
        | cons ib' irs' =>
          cases bs with
          | nil => simp [mapO] at h2
          | cons b' bs' =>
            obtain ⟨y, m1, e1, e2⟩ := inv_ch2 ev
            show wpAny _ _ (testChain pos u (op :: op' :: ops') (eval b X.env :: eval b' X.env :: evalEach bs' X.env)) _ _ _
            refine test_link (thn (pb.run pins s σ H _ I ⟨Z0, env, m, y, m1, S, e1, fun w H1 x1 st1 r1 => (⟨x1, st1, r1⟩ : Ext G H H1 ∧ StR G (Zs Γ σ Z0) H1 m1 ∧ RepB G false (Zs Γ σ Z0) H1 y w)⟩) fun w s1 ⟨wv, H1, I1, r1, x1, st1, rb⟩ => ?_)
            have S1 := S.next x1 st1
            have fin : ∀ c', cmpD (cCop op) x y = some c' → wpAny (model X.prog X.w) X.A (compareOp op u w) (EP X pins σ (fun z H2 => z = .bl c' ∧ Same H1 H2)) X.xe s1 := fun c' hc' =>
              hop pins s1 σ H1 v wv u w _ I1 ru r1 ⟨Zs Γ σ Z0, m1, x, y, .bl c', S1.amb, S.amb.repO x1 rx, rb, by simp [cmpV, hc'], fun v' H' nw => by have r' := nw.rep; cases r'; exact ⟨rfl, nw.same⟩⟩
            rcases e2 with ⟨hc, e2⟩ | ⟨hc, rfl, rfl⟩
            · refine thn (fin true hc) fun z s2 ⟨zv, H2, I2, r2, ez, sm⟩ => ?_
              subst ez
              cases r2
              refine wpAny_truthy_bool (ite_tt ?_)
              have S2 := S1.next (Ext.of sm) ((S1.amb.same sm).st)
              exact ihops (b' :: bs') (ib' :: irs') s2 H2 m1 y wv w c h2 (by simpa using hl) (by simp) sr S2 I2 (S1.amb.repO (Ext.of sm) rb) r1 e2 fun H' x' st' => q H' ((x1.trans (Ext.of sm)).trans x') st'
            · refine thn (fin false hc) fun z s2 ⟨zv, H2, I2, r2, ez, sm⟩ => ?_
              subst ez
              cases r2
              exact wpAny_truthy_bool (ite_ff ⟨H2, I2, q H2 (x1.trans (Ext.of sm)) (S1.amb.same sm).st⟩)
end
end Zz
/-! ZSnd2: targets, what is walked. -/
namespace Zz
open PySem PySem.Spec PyProof.Rows L2

section
variable {G : Gh} {P : Pr} {k : Nat} {C : CC} {X : Cx} {K : PySem.W.Frag} {Γ Γ' : List Nat} {Z Z0 : Addr → Prop} {σ σ' : L2.St} {H H' H1 : Hp} {env env' : Env} {m m' m1 : List D} {st : Bool} {d : D} {v : V}

theorem Zs_congr (h : ∀ i, i ∈ Γ → σ'[i]? = σ[i]?) : Zs Γ σ' Z0 = Zs Γ σ Z0 := by
  funext a
  apply propext
  constructor
  · rintro (z | ⟨i, hi, e⟩)
    · exact .inl z
    · exact .inr ⟨i, hi, by rw [← h i hi]; exact e⟩
  · rintro (z | ⟨i, hi, e⟩)
    · exact .inl z
    · exact .inr ⟨i, hi, by rw [h i hi]; exact e⟩
theorem SR.set {i : Nat} (S : SR G K Γ Z0 σ H env m) (hi : i < env.length) (n : i ∉ Γ) (r : Rep G (Zs Γ σ Z0) H d v) : SR G K Γ Z0 (σ.set i (some v)) H (env.set i (some d)) m := by
  have hz : Zs Γ (σ.set i (some v)) Z0 = Zs Γ σ Z0 := Zs_congr fun j hj => List.getElem?_set_ne (fun e => n (by rw [e]; exact hj))
  refine ⟨by simp [S.len], by rw [hz]; exact S.amb, S.zsa, fun j d' e nj => ?_, fun j hj => ?_, fun a b ha hb hab => ?_⟩
  · rw [hz]
    by_cases hj : i = j
    · subst hj
      rw [List.getElem?_set_self hi] at e
      cases e
      exact ⟨v, List.getElem?_set_self (by rw [← S.len]; exact hi), r⟩
    · rw [List.getElem?_set_ne hj] at e ⊢
      exact S.vals j d' e nj
  · have hne : i ≠ j := fun e => n (by rw [e]; exact hj)
    rw [hz]
    obtain ⟨a, vs, ds, h1, h2, h3⟩ := S.owns j hj
    exact ⟨a, vs, ds, by rw [List.getElem?_set_ne hne]; exact h1, by rw [List.getElem?_set_ne hne]; exact h2, h3⟩
  · rw [List.getElem?_set_ne (fun e => n (by rw [e]; exact ha)), List.getElem?_set_ne (fun e => n (by rw [e]; exact hb))]
    exact S.dist a b ha hb hab
theorem SR.wipe (S : SR G K Γ Z0 σ H env m) : ∀ {own : List Nat}, (∀ i, i ∈ own → i ∉ Γ) → SR G K Γ Z0 (wipe σ own) H (wipeE env own) m
  | [], _ => S
  | i :: is, n => by
    have ih := SR.wipe S (own := is) fun j hj => n j (List.mem_cons_of_mem _ hj)
    have ni := n i List.mem_cons_self
    show SR G K Γ Z0 ((L2.wipe σ is).set i none) H ((wipeE env is).set i none) m
    generalize L2.wipe σ is = σ1 at ih
    generalize wipeE env is = env1 at ih
    have hz : Zs Γ (σ1.set i none) Z0 = Zs Γ σ1 Z0 := Zs_congr fun j hj => List.getElem?_set_ne (fun e => ni (by rw [e]; exact hj))
    refine ⟨by simp [ih.len], by rw [hz]; exact ih.amb, ih.zsa, fun j d' e nj => ?_, fun j hj => ?_, fun a b ha hb hab => ?_⟩
    · rw [hz]
      by_cases hj : i = j
      · subst hj
        by_cases hl : i < env1.length
        · rw [List.getElem?_set_self hl] at e; cases e
        · rw [List.getElem?_eq_none (by simpa using hl)] at e; cases e
      · rw [List.getElem?_set_ne hj] at e ⊢
        exact ih.vals j d' e nj
    · have hne : i ≠ j := fun e => ni (by rw [e]; exact hj)
      rw [hz]
      obtain ⟨a, vs, ds, h1, h2, h3⟩ := ih.owns j hj
      exact ⟨a, vs, ds, by rw [List.getElem?_set_ne hne]; exact h1, by rw [List.getElem?_set_ne hne]; exact h2, h3⟩
    · rw [List.getElem?_set_ne (fun e => ni (by rw [e]; exact ha)), List.getElem?_set_ne (fun e => ni (by rw [e]; exact hb))]
      exact ih.dist a b ha hb hab
/-- lists are no longer one's own -/
theorem SR.weak (S : SR G K Γ Z0 σ H env m) (h : ∀ i, i ∈ Γ' → i ∈ Γ) : SR G K Γ' Z0 σ H env m := by
  have hz : ∀ a, Zs Γ' σ Z0 a → Zs Γ σ Z0 a := fun a z => by
    rcases z with z | ⟨i, hi, e⟩
    · exact .inl z
    · exact .inr ⟨i, h i hi, e⟩
  have rw1 : ∀ {d : D} {v : V}, Rep G (Zs Γ σ Z0) H d v → Rep G (Zs Γ' σ Z0) H d v := fun r => r.mono (fun _ _ _ q => q) fun b _ z _ => hz b z
  have rw2 : ∀ {d : List D} {v : List V}, Reps G (Zs Γ σ Z0) H d v → Reps G (Zs Γ' σ Z0) H d v := fun r => r.mono (fun _ _ _ q => q) fun b _ z _ => hz b z
  refine ⟨S.len, ⟨let ⟨vs, h1, h2⟩ := S.amb.st; ⟨vs, h1, rw2 h2⟩, .inl S.zsa, fun a z => S.amb.zin a (hz a z), S.amb.scr⟩, S.zsa, fun i d e n => ?_, fun i hi => ?_, fun a b ha hb => S.dist a b (h a ha) (h b hb)⟩
  · by_cases hi : i ∈ Γ
    · obtain ⟨a, vs, ds, h1, h2, h3, h4, h5⟩ := S.owns i hi
      rw [e] at h1; cases h1
      refine ⟨.ref a, h2, .lst h3 (fun z => ?_) (rw2 h4)⟩
      rcases z with z | ⟨j, hj, ej⟩
      · exact h5 z
      · have hij : i ≠ j := fun e => n (e ▸ hj)
        exact S.dist i j hi (h j hj) hij (by rw [h2, ej])
    · obtain ⟨v, h1, h2⟩ := S.vals i d e hi
      exact ⟨v, h1, rw1 h2⟩
  · obtain ⟨a, vs, ds, h1, h2, h3, h4, h5⟩ := S.owns i (h i hi)
    exact ⟨a, vs, ds, h1, h2, h3, rw2 h4, h5⟩

/-! ### targets -/
/-- only the target's slots have changed -/
def Chg (σ σ' : L2.St) (l : List Nat) : Prop := ∀ j : Nat, j ∉ l → σ'[j]? = σ[j]?
def tG (G : Gh) (K : PySem.W.Frag) (Γ : List Nat) (t : T) : TG := fun v σ H Q =>
  ∃ Z0 env m d env', SR G K Γ Z0 σ H env m ∧ asgT t d env = some env' ∧ Rep G (Zs Γ σ Z0) H d v ∧ ∀ σ', SR G K Γ Z0 σ' H env' m → Chg σ σ' (tv t) → σ'.length = σ.length → Q σ' H
def tGs (G : Gh) (K : PySem.W.Frag) (Γ : List Nat) (ts : List T) : TGs := fun vs σ H Q =>
  ∃ Z0 env m ds env', SR G K Γ Z0 σ H env m ∧ asgTs ts ds env = some env' ∧ Reps G (Zs Γ σ Z0) H ds vs ∧ ∀ σ', SR G K Γ Z0 σ' H env' m → Chg σ σ' (tvs ts) → σ'.length = σ.length → Q σ' H
theorem PG_imp {e : Expr} {t t' : TG} (h : PG X e t) (i : ∀ v σ H Q, t' v σ H Q → t v σ H Q) : PG X e t' := ⟨fun pins s σ H v u Q I r q => h.run pins s σ H v u Q I r (i v σ H Q q)⟩
theorem PGs_imp {e : List Expr} {t t' : TGs} (h : PGs X e t) (i : ∀ v σ H Q, t' v σ H Q → t v σ H Q) : PGs X e t' := ⟨fun pins s σ H v u Q I r q => h.run pins s σ H v u Q I r (i v σ H Q q)⟩
theorem PG_or {e : Expr} {t t' : TG} (h : PG X e t) (h' : PG X e t') : PG X e (fun v σ H Q => t v σ H Q ∨ t' v σ H Q) :=
  ⟨fun pins s σ H v u Q I r q => q.elim (h.run pins s σ H v u Q I r) (h'.run pins s σ H v u Q I r)⟩
theorem asg1 {e : Expr} {es : List Expr} {env : PySem.Env} (h : noStar e = true) : assignEach (e :: es) env = (false, assign e env) :: assignEach es env := by
  cases e <;> first | rfl | (simp [noStar] at h)
theorem asgs_len {env : PySem.Env} : ∀ {es : List Expr}, es.all noStar = true → (assignEach es env).length = es.length ∧ (assignEach es env).findIdx? (·.1) = none
  | [], _ => ⟨rfl, rfl⟩
  | e :: es, h => by
    rw [List.all_cons, Bool.and_eq_true] at h
    obtain ⟨h1, h2⟩ := asgs_len (env := env) h.2
    rw [asg1 h.1]
    refine ⟨by simp [h1], ?_⟩
    rw [List.findIdx?_cons, h2]; rfl
theorem cT_star {n : Nat} {e : Expr} {t : T} (h : cT n C e = some t) : noStar e = true := by
  cases n with
  | zero => simp [cT] at h
  | succ n => cases e <;> first | rfl | (simp [cT] at h)
theorem cTs_star {n : Nat} : ∀ {es : List Expr} {ts : List T}, mapO (cT n C) es = some ts → es.all noStar = true
  | [], _, _ => rfl
  | e :: es, ts, h => by
    obtain ⟨b, bs, h1, h2, _⟩ := mapO_cons h
    rw [List.all_cons, Bool.and_eq_true]
    exact ⟨cT_star h1, cTs_star h2⟩
theorem asgTs_len : ∀ {ts : List T} {ds : List D} {env env' : Env}, asgTs ts ds env = some env' → ds.length = ts.length
  | [], [], _, _, _ => rfl
  | t :: ts, d :: ds, env, env', h => by
    simp only [asgTs] at h
    split at h
    · simp [asgTs_len h]
    · cases h
  | [], _ :: _, _, _, h => by simp [asgTs] at h
  | _ :: _, [], _, _, h => by simp [asgTs] at h
theorem pgT : ∀ (n : Nat) {e : Expr} {t : T}, cT n C e = some t → Good G P k C X → (∀ i, i ∈ tv t → i ∉ Γ) → PG X e (tG G X.K Γ t) := by
  intro n
  induction n with
  | zero => intro e t h; simp [cT] at h
  | succ n ih =>
    intro e t h g nt
    cases e with
    | Name x pos =>
      simp only [cT] at h
      split at h
      · rename_i hl
        split at h
        · rename_i i hi
          cases h
          obtain ⟨hloc, hfn⟩ := g.stor x hl
          have hN : X.N[i]? = some x := by rw [g.N]; exact fnd_get hi
          refine PG_imp (pg_name (i := i) (by rw [g.N]; exact g.nd) hN (by rw [g.sc]; exact hloc) (by rw [g.sc]; exact hfn)) fun v σ H Q ⟨Z0, env, m, d, env', S, ea, r, q⟩ => ?_
          simp only [asgT] at ea
          split at ea
          · rename_i hlt
            cases ea
            exact q _ (S.set hlt (nt i (by simp [tv])) r) (fun j hj => List.getElem?_set_ne (fun e => hj (by simp [tv, e]))) (by simp)
          · cases ea
        · cases h
      · cases h
    | Tuple es kk pos =>
      simp only [cT] at h
      split at h
      · rename_i ts hts
        cases h
        have hst := cTs_star hts
        have pgs : ∀ {es : List Expr} {ts : List T}, mapO (cT n C) es = some ts → (∀ i, i ∈ tvs ts → i ∉ Γ) → PGs X es (tGs G X.K Γ ts) := by
          intro es
          induction es with
          | nil =>
            intro ts hm _
            simp only [mapO, Option.some.injEq] at hm; subst hm
            refine PGs_imp pgs_nil fun vs σ H Q ⟨Z0, env, m, ds, env', S, ea, r, q⟩ => ?_
            cases ds with
            | nil =>
              cases r
              simp only [asgTs, Option.some.injEq] at ea; subst ea
              exact ⟨rfl, q _ S (fun _ _ => rfl) rfl⟩
            | cons _ _ => simp [asgTs] at ea
          | cons e es ihes =>
            intro ts hm nts
            obtain ⟨t, ts, h1, h2, rfl⟩ := mapO_cons hm
            have n1 : ∀ i, i ∈ tv t → i ∉ Γ := fun i hi => nts i (by simp only [tvs]; exact List.mem_append_left _ hi)
            have n2 : ∀ i, i ∈ tvs ts → i ∉ Γ := fun i hi => nts i (by simp only [tvs]; exact List.mem_append_right _ hi)
            refine PGs_imp (pgs_cons (ih h1 g n1) (ihes h2 n2) (by rw [asg1 (cT_star h1)]; rfl)) fun vs σ H Q ⟨Z0, env, m, ds, env', S, ea, r, q⟩ => ?_
            cases ds with
            | nil => simp [asgTs] at ea
            | cons d ds =>
              obtain ⟨u, us, rfl, r1, r2⟩ := r.cons_inv
              simp only [asgTs] at ea
              split at ea
              · rename_i env1 he1
                refine ⟨u, us, rfl, Z0, env, m, d, env1, S, he1, r1, fun σ1 S1 c1 l1 => ⟨Z0, env1, m, ds, env', S1, ea, ?_, fun σ2 S2 c2 l2 => q σ2 S2 (fun j hj => ?_) (l2.trans l1)⟩⟩
                · rw [Zs_congr (σ := σ) fun i hi => c1 i fun z => n1 i z hi]; exact r2
                · simp only [tvs, List.mem_append, not_or] at hj
                  rw [c2 j hj.2, c1 j hj.1]
              · cases ea
        have pg := pgs hts (by intro i hi; exact nt i (by simpa [tv] using hi))
        obtain ⟨l1, l2⟩ := asgs_len (env := X.env) hst
        refine PG_imp (PG_or (pg_tup (n := es.length) g.calm pg l1 l2) (pg_unl (n := es.length) g.calm pg l1 l2)) fun v σ H Q ⟨Z0, env, m, d, env', S, ea, r, q⟩ => ?_
        have hl := mapO_len hts
        cases d with
        | tup xs =>
          obtain ⟨a, us, rfl, ha, _, t⟩ := r.tup_inv
          simp only [asgT] at ea
          have := asgTs_len ea
          exact .inl ⟨a, us, rfl, SqT.of ha, by rw [← t.length, this, hl], Z0, env, m, xs, env', S, ea, t, fun σ' S' c l => q σ' S' (by simpa [tv] using c) l⟩
        | lst xs =>
          obtain ⟨a, us, rfl, ha, _, t⟩ := r.lst_inv
          simp only [asgT] at ea
          have := asgTs_len ea
          exact .inr ⟨a, us, rfl, SqL.of ha, by rw [← t.length, this, hl], Z0, env, m, xs, env', S, ea, t, fun σ' S' c l => q σ' S' (by simpa [tv] using c) l⟩
        | _ => simp [asgT] at ea
      · cases h
    | _ => simp [cT] at h

/-! ### what is walked -/
/-- what the walk leans on stays -/
def Kp (G : Gh) (K : PySem.W.Frag) (st : Bool) (Z : Addr → Prop) (H1 H : Hp) : Prop := ScrOk K H G ∧ ∀ b o, (st = true → ¬ Z b) → b ≠ G.sa → H1 b = some o → H b = some o
def ISp (G : Gh) (K : PySem.W.Frag) (st : Bool) (Z : Addr → Prop) (H1 : Hp) (J : It) (items : List D) : Prop :=
  ∃ Gd Y, Walk J items.length Gd Y ∧ (∀ H, Kp G K st Z H1 H → Gd H) ∧
    ∀ i H x H' Z', i < items.length → Kp G K st Z H1 H → (∀ b o, Z' b → H1 b = some o → Z b) → (∀ b, Z' b → H b ≠ none) → Y i H x H' → Same H H' ∧ ∃ d, items[i]? = some d ∧ Rep G Z' H' d x
def tI (G : Gh) (K : PySem.W.Frag) (P : Pr) (Γ : List Nat) (st : Bool) (ir : E) : TI := fun σ H R =>
  ∃ Z0 env m d m' items, SR G K Γ Z0 σ H env m ∧ evE P ir env m = some (d, m') ∧ itemsD P d = some items ∧ ∀ J H1, Ext G H H1 → StR G (Zs Γ σ Z0) H1 m' → ISp G K st (Zs Γ σ Z0) H1 J items → R J H1
theorem PI_imp {tg e : Expr} {t t' : TI} (h : PI X tg e t) (i : ∀ σ H R, t' σ H R → t σ H R) : PI X tg e t' := ⟨fun pins s σ H R I q => h.run pins s σ H R I (i σ H R q)⟩
theorem PI_or {tg e : Expr} {t t' : TI} (h : PI X tg e t) (h' : PI X tg e t') : PI X tg e (fun σ H R => t σ H R ∨ t' σ H R) :=
  ⟨fun pins s σ H R I q => q.elim (h.run pins s σ H R I) (h'.run pins s σ H R I)⟩

theorem Kp.reps {Z' : Addr → Prop} (A : Amb G K Z H1 m) (q : Kp G K st Z H1 H) (hz : ∀ b o, Z' b → H1 b = some o → Z b) {ds : List D} {vs : List V} (r : Reps G Z H1 ds vs) : Reps G Z' H ds vs :=
  r.mono (fun b o n e => q.2 b o (fun _ => n) (fun z => n (z ▸ A.zsa)) e) hz
/-- a list, a tuple, the script: as it can be read -/
inductive Sq (K : PySem.W.Frag) (H : Hp) (a : Addr) (vs : List V) : Bool → Prop
  | l : SqL K H a vs → Sq K H a vs true
  | t : SqT K H a vs → Sq K H a vs false
def isL : D → Bool
  | .tup _ => false
  | _ => true
theorem items_kp (hn : P.ns = G.ns) {items : List D} (A : Amb G K Z H1 m) (r : RepB G st Z H1 d v) (e : itemsD P d = some items) :
    ∃ a vs, v = .ref a ∧ Sq K H1 a vs (isL d) ∧ Reps G Z H1 items vs ∧ ∀ H, Kp G K st Z H1 H → Sq K H a vs (isL d) := by
  cases d with
  | lst ys =>
    simp only [itemsD, Option.some.injEq] at e; subst e
    have : ∃ a vs, v = .ref a ∧ H1 a = some (.lst vs) ∧ Reps G Z H1 ys vs ∧ (st = true → ¬ Z a) ∧ a ≠ G.sa := by
      cases st with
      | true =>
        obtain ⟨a, vs, h1, h2, h3, h4⟩ := (show Rep G Z H1 (.lst ys) v from r).lst_inv
        exact ⟨a, vs, h1, h2, h4, fun _ => h3, fun z => h3 (z ▸ A.zsa)⟩
      | false =>
        rcases (show RepO G Z H1 (.lst ys) v from r) with r | ⟨a, vs, es, h1, h2, h3, h4, h5⟩
        · obtain ⟨a, vs, h1, h2, h3, h4⟩ := r.lst_inv
          exact ⟨a, vs, h1, h2, h4, fun z => (by cases z), fun z => h3 (z ▸ A.zsa)⟩
        · cases h2
          exact ⟨a, vs, h1, h3, h4, fun z => (by cases z), h5⟩
    obtain ⟨a, vs, h1, h2, h3, h4, h5⟩ := this
    exact ⟨a, vs, h1, .l (SqL.of h2), h3, fun H q => .l (SqL.of (q.2 a _ h4 h5 h2))⟩
  | tup ys =>
    simp only [itemsD, Option.some.injEq] at e; subst e
    obtain ⟨a, vs, h1, h2, h3, h4⟩ := r.o.tup
    exact ⟨a, vs, h1, .t (SqT.of h2), h4, fun H q => .t (SqT.of (q.2 a _ (fun _ => h3) (fun z => h3 (z ▸ A.zsa)) h2))⟩
  | scr =>
    simp only [itemsD, Option.some.injEq] at e; subst e
    have := r.o.rep (fun _ z => by cases z)
    cases this
    exact ⟨_, _, rfl, .l A.scr.seq, by rw [hn]; exact Reps.ints _, fun H q => .l q.1.seq⟩
  | _ => simp [itemsD] at e
theorem yat {items : List D} {vs : List V} {i : Nat} {x : V} (r : Reps G Z H items vs) (e : vs[i]? = some x) : ∃ d, items[i]? = some d ∧ Rep G Z H d x := by
  have hi : i < items.length := by rw [r.length]; exact (List.getElem?_eq_some_iff.mp e).1
  obtain ⟨v, h1, h2⟩ := r.get (List.getElem?_eq_getElem hi)
  rw [e] at h1; cases h1
  exact ⟨_, List.getElem?_eq_getElem hi, h2⟩
theorem isp_list {items : List D} {a : Addr} {vs : List V} (A : Amb G K Z H1 m) (r : Reps G Z H1 items vs) (q : ∀ H, Kp G K st Z H1 H → Sq K H a vs true) : ISp G K st Z H1 (Itl K a) items := by
  refine ⟨_, _, by rw [r.length]; exact walk_list (K := K) (a := a) (xs := vs), fun H h => (by cases q H h; assumption), fun i H x H' Z' hi h hz hz2 y => ?_⟩
  obtain ⟨rfl, y⟩ := y
  exact ⟨Same.refl _, yat (h.reps A hz r) y⟩
theorem isp_tup {items : List D} {a : Addr} {vs : List V} (A : Amb G K Z H1 m) (r : Reps G Z H1 items vs) (q : ∀ H, Kp G K st Z H1 H → Sq K H a vs false) : ISp G K st Z H1 (Itt K a) items := by
  refine ⟨_, _, by rw [r.length]; exact walk_tup (K := K) (a := a) (xs := vs), fun H h => (by cases q H h; assumption), fun i H x H' Z' hi h hz hz2 y => ?_⟩
  obtain ⟨rfl, y⟩ := y
  exact ⟨Same.refl _, yat (h.reps A hz r) y⟩
/-- a value that is walked -/
theorem pi_val {n : Nat} (ih : IH n) (g : Good G P k C X) {tg e : Expr} {ir : E} (h : cE n C e = some ir) (hs : ∀ i, i ∈ svS st ir → i ∉ Γ) : PI X tg e (tI G X.K P Γ st ir) := by
  have pe := ih.e G P k C X Γ e ir st h g hs
  refine PI_imp (PI_or (pi_list (tg := tg) pe) (pi_tup (tg := tg) pe)) fun σ H R ⟨Z0, env, m, d, m', items, S, ev, ei, q⟩ => ?_
  by_cases hd : isL d = true
  · refine .inl ⟨Z0, env, m, d, m', S, ev, fun v H1 x1 s1 r1 => ?_⟩
    have A := (S.next x1 s1).amb
    obtain ⟨a, vs, rfl, h1, h2, h3⟩ := items_kp g.ns A r1 ei
    rw [hd] at h1 h3
    cases h1 with
    | l h1 => exact ⟨a, rfl, ⟨vs, h1⟩, q _ _ x1 s1 (isp_list A h2 h3)⟩
  · refine .inr ⟨Z0, env, m, d, m', S, ev, fun v H1 x1 s1 r1 => ?_⟩
    have A := (S.next x1 s1).amb
    obtain ⟨a, vs, rfl, h1, h2, h3⟩ := items_kp g.ns A r1 ei
    rw [eq_false_of_ne_true hd] at h1 h3
    cases h1 with
    | t h1 => exact ⟨a, rfl, ⟨vs, h1⟩, q _ _ x1 s1 (isp_tup A h2 h3)⟩
end
end Zz
/-! ZSnd3: range, enumerate, zip, reversed; comprehensions. -/
namespace Zz
open PySem PySem.Spec PyProof.Rows L2
section
variable {G : Gh} {P : Pr} {k : Nat} {C : CC} {X : Cx} {K : PySem.W.Frag} {Γ Γ' : List Nat} {Z Z0 : Addr → Prop} {σ σ' : L2.St} {H H' H1 : Hp} {env env' : Env} {m m' m1 : List D} {st : Bool} {d : D} {v : V}

theorem rangeD_len (lo : Int) : ∀ n, (rangeD lo n).length = n
  | 0 => rfl
  | n + 1 => by simp [rangeD, rangeD_len]
theorem rangeD_get (lo : Int) : ∀ (n i : Nat), i < n → (rangeD lo n)[i]? = some (.int (lo + i))
  | 0, _, h => absurd h (Nat.not_lt_zero _)
  | n + 1, 0, _ => by simp [rangeD]
  | n + 1, i + 1, h => by
    have := rangeD_get (lo + 1) n i (by omega)
    simp only [rangeD, List.getElem?_cons_succ, this]
    congr 2; omega
theorem rangeC_len (c : Int) : ∀ (n : Nat) (lo : Int), (rangeC lo c n).length = n
  | 0, _ => rfl
  | n + 1, lo => by simp [rangeC, rangeC_len]
theorem rangeC_get (c : Int) : ∀ (n i : Nat) (lo : Int), i < n → (rangeC lo c n)[i]? = some (.int (lo + i * c))
  | 0, _, _, h => absurd h (Nat.not_lt_zero _)
  | n + 1, 0, lo, _ => by simp [rangeC]
  | n + 1, i + 1, lo, h => by
    have := rangeC_get c n i (lo + c) (by omega)
    simp only [rangeC, List.getElem?_cons_succ, this]
    congr 2
    have : (((i + 1 : Nat) : Int)) * c = (i : Int) * c + c := by rw [Int.natCast_add, Int.add_mul]; simp
    rw [this]; omega
theorem enumD_len : ∀ (xs : List D) (k : Int), (enumD k xs).length = xs.length
  | [], _ => rfl
  | x :: xs, k => by simp [enumD, enumD_len]
theorem enumD_get : ∀ (xs : List D) (k : Int) (i : Nat) (x : D), xs[i]? = some x → (enumD k xs)[i]? = some (.tup [.int (k + i), x])
  | [], _, _, _, h => by simp at h
  | y :: xs, k, 0, x, h => by simp at h; simp [enumD, h]
  | y :: xs, k, i + 1, x, h => by
    have := enumD_get xs (k + 1) i x (by simpa using h)
    simp only [enumD, List.getElem?_cons_succ, this]
    congr 4; omega
theorem zipD_len : ∀ (xs ys : List D), (zipD xs ys).length = min xs.length ys.length
  | [], _ => by simp [zipD]
  | _ :: _, [] => by simp [zipD]
  | x :: xs, y :: ys => by simp [zipD, zipD_len xs ys]
theorem zipD_get : ∀ (xs ys : List D) (i : Nat) (x y : D), xs[i]? = some x → ys[i]? = some y → (zipD xs ys)[i]? = some (.tup [x, y])
  | [], _, _, _, _, h, _ => by simp at h
  | _ :: _, [], _, _, _, _, h => by simp at h
  | _ :: _, _ :: _, 0, _, _, h1, h2 => by simp at h1 h2; simp [zipD, h1, h2]
  | _ :: xs, _ :: ys, i + 1, x, y, h1, h2 => by
    have := zipD_get xs ys i x y (by simpa using h1) (by simpa using h2)
    simp only [zipD, List.getElem?_cons_succ, this]

theorem ok62_iff {i : Int} : ok62 i = true ↔ (-(2 ^ 62) ≤ i ∧ i < 2 ^ 62) := by
  simp only [ok62, Bool.and_eq_true, decide_eq_true_eq]; omega

theorem isp_range {lo : Int} {n : Nat} : ISp G K st Z H1 (Itr lo n) (rangeD lo n) := by
  refine ⟨_, _, by rw [rangeD_len]; exact walk_range, fun _ _ => trivial, fun i H x H' Z' hi h hz hz2 y => ?_⟩
  obtain ⟨rfl, rfl⟩ := y
  rw [rangeD_len] at hi
  exact ⟨Same.refl _, _, rangeD_get lo n i hi, .int _⟩
theorem isp_rangeC {lo c : Int} {n : Nat} : ISp G K st Z H1 (Itc lo c n) (rangeC lo c n) := by
  refine ⟨_, _, by rw [rangeC_len]; exact walk_rangeC, fun _ _ => trivial, fun i H x H' Z' hi h hz hz2 y => ?_⟩
  obtain ⟨rfl, rfl⟩ := y
  rw [rangeC_len] at hi
  exact ⟨Same.refl _, _, rangeC_get c n i lo hi, .int _⟩
/-- a pair made new, in a walk -/
theorem pair_new {Z' : Addr → Prop} (hz2 : ∀ b, Z' b → H b ≠ none) {x y : D} {u w : V} {T : Addr} (hT : H T = none) (r1 : Rep G Z' H x u) (r2 : Rep G Z' H y w) : Rep G Z' (upd H T (.tup [u, w])) (.tup [x, y]) (.ref T) := by
  have k : ∀ b o, ¬ Z' b → H b = some o → (upd H T (.tup [u, w])) b = some o := fun b o _ e => by rw [upd_ne (ne_of_none e hT)]; exact e
  exact .tup upd_same (fun z => hz2 T z hT) (.cons (r1.mono k fun _ _ z _ => z) (.cons (r2.mono k fun _ _ z _ => z) .nil))
theorem isp_enum {items : List D} {a : Addr} {vs : List V} (A : Amb G K Z H1 m) (r : Reps G Z H1 items vs) (q : ∀ H, Kp G K st Z H1 H → Sq K H a vs true) : ISp G K st Z H1 (Ite K a) (enumD 0 items) := by
  refine ⟨_, _, by rw [enumD_len, r.length]; exact walk_enum (K := K) (a := a) (xs := vs), fun H h => (by cases q H h; assumption), fun i H x H' Z' hi h hz hz2 y => ?_⟩
  obtain ⟨T, x', y', rfl, hT, rfl, e1, e2⟩ := y
  cases e1
  obtain ⟨d, h1, h2⟩ := yat (h.reps A hz r) e2
  refine ⟨Same.upd hT, _, enumD_get items 0 i d h1, ?_⟩
  rw [Int.zero_add]
  exact pair_new hz2 hT (.int _) h2
theorem isp_enumT {items : List D} {a : Addr} {vs : List V} (A : Amb G K Z H1 m) (r : Reps G Z H1 items vs) (q : ∀ H, Kp G K st Z H1 H → Sq K H a vs false) : ISp G K st Z H1 (IteT K a) (enumD 0 items) := by
  refine ⟨_, _, by rw [enumD_len, r.length]; exact walk_enumT (K := K) (a := a) (xs := vs), fun H h => (by cases q H h; assumption), fun i H x H' Z' hi h hz hz2 y => ?_⟩
  obtain ⟨T, x', y', rfl, hT, rfl, e1, e2⟩ := y
  cases e1
  obtain ⟨d, h1, h2⟩ := yat (h.reps A hz r) e2
  refine ⟨Same.upd hT, _, enumD_get items 0 i d h1, ?_⟩
  rw [Int.zero_add]
  exact pair_new hz2 hT (.int _) h2
theorem walk_zipT {a b : Addr} {xs ys : List V} {n : Nat} (hn : n = min xs.length ys.length) : Walk (RZ.ItzT K a b) n (fun H => SqT K H a xs ∧ SqT K H b ys) (YPair (fun i => xs[i]?) (fun i => ys[i]?)) :=
  ⟨fun i H hi q => ⟨xs, ys, _, _, q.1, q.2, List.getElem?_eq_getElem (by omega), List.getElem?_eq_getElem (by omega)⟩, fun H q => ⟨xs, ys, q.1, q.2, by omega⟩, fun i H x H' hi q y => by
    obtain ⟨T, z, w, e, hT, e', hz, hw⟩ := y
    exact ⟨T, z, w, e, hT, e', hz xs q.1, hw ys q.2⟩⟩
theorem isp_zip {is js : List D} {a b : Addr} {vs us : List V} (A : Amb G K Z H1 m) (r : Reps G Z H1 is vs) (t : Reps G Z H1 js us) (q : ∀ H, Kp G K st Z H1 H → Sq K H a vs true ∧ Sq K H b us true) : ISp G K st Z H1 (Itz K a b) (zipD is js) := by
  refine ⟨_, _, by rw [zipD_len, r.length, t.length]; exact walk_zip (K := K) (a := a) (b := b) (xs := vs) (ys := us) rfl, fun H h => (by obtain ⟨h1, h2⟩ := q H h; cases h1; cases h2; constructor <;> assumption), fun i H x H' Z' hi h hz hz2 y => ?_⟩
  obtain ⟨T, x', y', rfl, hT, rfl, e1, e2⟩ := y
  obtain ⟨d, h1, h2⟩ := yat (h.reps A hz r) e1
  obtain ⟨e, h3, h4⟩ := yat (h.reps A hz t) e2
  exact ⟨Same.upd hT, _, zipD_get is js i d e h1 h3, pair_new hz2 hT h2 h4⟩
theorem isp_zipT {is js : List D} {a b : Addr} {vs us : List V} (A : Amb G K Z H1 m) (r : Reps G Z H1 is vs) (t : Reps G Z H1 js us) (q : ∀ H, Kp G K st Z H1 H → Sq K H a vs false ∧ Sq K H b us false) : ISp G K st Z H1 (RZ.ItzT K a b) (zipD is js) := by
  refine ⟨_, _, by rw [zipD_len, r.length, t.length]; exact walk_zipT (K := K) (a := a) (b := b) (xs := vs) (ys := us) rfl, fun H h => (by obtain ⟨h1, h2⟩ := q H h; cases h1; cases h2; constructor <;> assumption), fun i H x H' Z' hi h hz hz2 y => ?_⟩
  obtain ⟨T, x', y', rfl, hT, rfl, e1, e2⟩ := y
  obtain ⟨d, h1, h2⟩ := yat (h.reps A hz r) e1
  obtain ⟨e, h3, h4⟩ := yat (h.reps A hz t) e2
  exact ⟨Same.upd hT, _, zipD_get is js i d e h1 h3, pair_new hz2 hT h2 h4⟩
theorem rev_at {items : List D} {vs : List V} {i : Nat} {x : V} (r : Reps G Z H items vs) (hi : i < items.reverse.length) (e : vs[vs.length - 1 - i]? = some x) : ∃ d, items.reverse[i]? = some d ∧ Rep G Z H d x := by
  obtain ⟨d, h1, h2⟩ := yat r e
  refine ⟨d, ?_, h2⟩
  rw [List.length_reverse] at hi
  rw [List.getElem?_reverse hi, r.length]; exact h1
theorem isp_rev {items : List D} {a : Addr} {vs : List V} (A : Amb G K Z H1 m) (r : Reps G Z H1 items vs) (q : ∀ H, Kp G K st Z H1 H → Sq K H a vs true) : ISp G K st Z H1 (Itv K a vs.length) items.reverse := by
  refine ⟨_, _, by rw [List.length_reverse, r.length]; exact walk_rev (K := K) (a := a) (xs := vs), fun H h => (by cases q H h; assumption), fun i H x H' Z' hi h hz hz2 y => ?_⟩
  obtain ⟨rfl, y⟩ := y
  exact ⟨Same.refl _, rev_at (h.reps A hz r) hi y⟩
theorem walk_revT {a : Addr} {xs : List V} : Walk (RT.ItvT K a xs.length) xs.length (fun H => SqT K H a xs) (fun i H x H' => H' = H ∧ xs[xs.length - 1 - i]? = some x) :=
  ⟨fun i H hi q => ⟨hi, xs, _, q, List.getElem?_eq_getElem (by omega)⟩, fun H q => Nat.le_refl _, fun i H x H' hi q y => ⟨y.1, y.2 xs q⟩⟩
theorem isp_revT {items : List D} {a : Addr} {vs : List V} (A : Amb G K Z H1 m) (r : Reps G Z H1 items vs) (q : ∀ H, Kp G K st Z H1 H → Sq K H a vs false) : ISp G K st Z H1 (RT.ItvT K a vs.length) items.reverse := by
  refine ⟨_, _, by rw [List.length_reverse, r.length]; exact walk_revT (K := K) (a := a) (xs := vs), fun H h => (by cases q H h; assumption), fun i H x H' Z' hi h hz hz2 y => ?_⟩
  obtain ⟨rfl, y⟩ := y
  exact ⟨Same.refl _, rev_at (h.reps A hz r) hi y⟩

theorem RepsB.one {x : D} {vs : List V} (r : RepsB G st Z H [x] vs) : ∃ v, vs = [v] ∧ RepB G st Z H x v := by
  cases r with
  | cons a b => cases b; exact ⟨_, rfl, a⟩
theorem RepsB.two {x y : D} {vs : List V} (r : RepsB G st Z H [x, y] vs) : ∃ v u, vs = [v, u] ∧ RepB G st Z H x v ∧ RepB G st Z H y u := by
  cases r with
  | cons a b =>
    obtain ⟨u, rfl, c⟩ := b.one
    exact ⟨_, _, rfl, a, c⟩
theorem inv_one {a : E} {zs : List D} (h : evEs P [a] env m = some (zs, m')) : ∃ x, evE P a env m = some (x, m') ∧ zs = [x] := by
  obtain ⟨x, m1, xs, h1, h2, rfl⟩ := inv_cons h
  simp only [evEs, Option.some.injEq, Prod.mk.injEq] at h2
  obtain ⟨rfl, rfl⟩ := h2
  exact ⟨x, h1, rfl⟩
/-- the arguments of what is walked: read for a comprehension, stored for a loop -/
def svI (st : Bool) (ir : E) : List Nat := match st, ir with
  | true, .bi .enum es => svM es
  | true, .bi .zip es => svM es
  | true, .bi .rev es => svM es
  | st, ir => svS st ir
theorem isTup_of {tg : Expr} (h : isTupE tg = true) : ∃ es kk pos, tg = .Tuple es kk pos := by
  cases tg <;> first | exact ⟨_, _, _, rfl⟩ | (simp [isTupE] at h)
theorem mapO_one {n : Nat} {args : List Expr} {irs : List E} (h : mapO (cE n C) args = some irs) (hl : args.length = 1) : ∃ a ia, args = [a] ∧ irs = [ia] ∧ cE n C a = some ia := by
  match args, hl with
  | [a], _ =>
    obtain ⟨b, bs, h1, h2, rfl⟩ := mapO_cons h
    simp only [mapO, Option.some.injEq] at h2; subst h2
    exact ⟨a, b, rfl, rfl, h1⟩
theorem mapO_two {n : Nat} {args : List Expr} {irs : List E} (h : mapO (cE n C) args = some irs) (hl : args.length = 2) : ∃ a b ia ib, args = [a, b] ∧ irs = [ia, ib] ∧ cE n C a = some ia ∧ cE n C b = some ib := by
  match args, hl with
  | [a, b], _ =>
    obtain ⟨x, bs, h1, h2, rfl⟩ := mapO_cons h
    obtain ⟨y, bs, h3, h4, rfl⟩ := mapO_cons h2
    simp only [mapO, Option.some.injEq] at h4; subst h4
    exact ⟨a, b, x, y, rfl, rfl, h1, h3⟩
theorem rangeSize_turns {i j c : Int} : Builtin.Range.rangeSize i j c = (turns i j c : Nat) := by
  unfold Builtin.Range.rangeSize turns
  by_cases h : 0 < c
  · rw [if_pos (show c > 0 from h), if_pos h]
    split
    · have := Int.ediv_nonneg (show 0 ≤ j - i - 1 by omega) (show 0 ≤ c by omega)
      omega
    · rfl
  · rw [if_neg (show ¬ c > 0 from h), if_neg h]
    by_cases h2 : j < i
    · rw [if_pos (show i > j from h2), if_pos h2]
      have := Int.ediv_nonneg (show 0 ≤ i - j - 1 by omega) (show 0 ≤ -c by omega)
      omega
    · rw [if_neg (show ¬ i > j from h2), if_neg h2]; rfl
theorem bi_range {ds : List D} {d : D} (e : biD P .range ds = some d) : (∃ j, ds = [.int j] ∧ ok62 j = true ∧ d = .lst (rangeD 0 j.toNat)) ∨
    (∃ i j, ds = [.int i, .int j] ∧ ok62 i = true ∧ ok62 j = true ∧ d = .lst (rangeD i (j - i).toNat)) ∨
    ∃ i j c, ds = [.int i, .int j, .int c] ∧ c ≠ 0 ∧ c.natAbs < 1073741824 ∧ Builtin.Range.small i j c = true ∧ d = .lst (rangeC i c (turns i j c)) := by
  rcases ds with _ | ⟨x, _ | ⟨y, _ | ⟨z, _ | ⟨w, r⟩⟩⟩⟩
  · simp [biD] at e
  · cases x with
    | int j =>
      simp only [biD] at e
      split at e
      · rename_i h; cases e
        rw [Bool.and_eq_true] at h
        exact .inl ⟨j, rfl, h.1, rfl⟩
      · cases e
    | _ => simp [biD] at e
  · cases x with
    | int i =>
      cases y with
      | int j =>
        simp only [biD] at e
        split at e
        · rename_i h; cases e
          simp only [Bool.and_eq_true] at h
          exact .inr (.inl ⟨i, j, rfl, h.1.1, h.1.2, rfl⟩)
        · cases e
      | _ => simp [biD] at e
    | _ => simp [biD] at e
  · cases x with
    | int i =>
      cases y with
      | int j =>
        cases z with
        | int c =>
          simp only [biD] at e
          split at e
          · rename_i h; cases e
            simp only [Bool.and_eq_true, decide_eq_true_eq] at h
            exact .inr (.inr ⟨i, j, c, rfl, h.1.1.1, h.1.1.2, h.1.2, rfl⟩)
          · cases e
        | _ => simp [biD] at e
      | _ => simp [biD] at e
    | _ => simp [biD] at e
  · simp [biD] at e
theorem bi_enum {ds : List D} {d : D} (e : biD P .enum ds = some d) : ∃ x xs, ds = [x] ∧ itemsD P x = some xs ∧ (x = .lst xs ∨ x = .tup xs) ∧ d = .lst (enumD 0 xs) := by
  rcases ds with _ | ⟨x, _ | ⟨y, r⟩⟩
  · simp [biD] at e
  · cases x with
    | lst xs => simp only [biD, Option.some.injEq] at e; exact ⟨_, xs, rfl, rfl, .inl rfl, e.symm⟩
    | tup xs => simp only [biD, Option.some.injEq] at e; exact ⟨_, xs, rfl, rfl, .inr rfl, e.symm⟩
    | _ => simp [biD] at e
  · simp [biD] at e
theorem bi_rev {ds : List D} {d : D} (e : biD P .rev ds = some d) : ∃ x xs, ds = [x] ∧ itemsD P x = some xs ∧ (x = .lst xs ∨ x = .tup xs) ∧ d = .lst xs.reverse := by
  rcases ds with _ | ⟨x, _ | ⟨y, r⟩⟩
  · simp [biD] at e
  · cases x with
    | lst xs => simp only [biD, Option.some.injEq] at e; exact ⟨_, xs, rfl, rfl, .inl rfl, e.symm⟩
    | tup xs => simp only [biD, Option.some.injEq] at e; exact ⟨_, xs, rfl, rfl, .inr rfl, e.symm⟩
    | _ => simp [biD] at e
  · simp [biD] at e
theorem bi_zip {ds : List D} {d : D} (e : biD P .zip ds = some d) : ∃ x y xs ys, ds = [x, y] ∧ itemsD P x = some xs ∧ itemsD P y = some ys ∧ ((x = .lst xs ∧ y = .lst ys) ∨ (x = .tup xs ∧ y = .tup ys)) ∧ d = .lst (zipD xs ys) := by
  rcases ds with _ | ⟨x, _ | ⟨y, _ | ⟨z, r⟩⟩⟩
  · simp [biD] at e
  · cases x <;> simp [biD] at e
  · cases x with
    | lst xs =>
      cases y with
      | lst ys => simp only [biD, Option.some.injEq] at e; exact ⟨_, _, xs, ys, rfl, rfl, rfl, .inl ⟨rfl, rfl⟩, e.symm⟩
      | _ => simp [biD] at e
    | tup xs =>
      cases y with
      | tup ys => simp only [biD, Option.some.injEq] at e; exact ⟨_, _, xs, ys, rfl, rfl, rfl, .inr ⟨rfl, rfl⟩, e.symm⟩
      | _ => simp [biD] at e
    | _ => cases y <;> simp [biD] at e
  · cases x <;> cases y <;> simp [biD] at e
theorem svSL_enum {b : Bi} {es : List E} (hb : b = .enum ∨ b = .zip ∨ b = .rev) (hs : ∀ i, i ∈ svI st (.bi b es) → i ∉ Γ) : ∀ i, i ∈ svSL st es → i ∉ Γ := by
  intro i hi
  refine hs i ?_
  cases st with
  | true => rcases hb with rfl | rfl | rfl <;> exact hi
  | false => rcases hb with rfl | rfl | rfl <;> (show i ∈ sv false _; rw [sv]; exact hi)
theorem svSL_range {es : List E} (hs : ∀ i, i ∈ svI st (.bi .range es) → i ∉ Γ) : ∀ i, i ∈ svSL false es → i ∉ Γ := by
  intro i hi
  refine hs i ?_
  have : i ∈ sv false (.bi .range es) := by rw [sv]; exact hi
  cases st with
  | true => exact sv_sub (st := true) i this
  | false => exact this
theorem svL_svM : ∀ {es : List E} (i : Nat), i ∈ svL false es → i ∈ svM es
  | [], _, h => by simp [svL] at h
  | a :: as, i, h => by
    rw [svL] at h
    rw [svM]
    rcases List.mem_append.mp h with h | h
    · exact List.mem_append_left _ (sv_sub (st := true) i h)
    · exact List.mem_append_right _ (svL_svM i h)
theorem svI_ge {ir : E} : ∀ i, i ∈ svS st ir → i ∈ svI st ir := by
  intro i h
  unfold svI
  split
  · exact svL_svM i (by rw [svS, if_pos rfl] at h; simpa [stv, sv] using h)
  · exact svL_svM i (by rw [svS, if_pos rfl] at h; simpa [stv, sv] using h)
  · exact svL_svM i (by rw [svS, if_pos rfl] at h; simpa [stv, sv] using h)
  · exact h
theorem isL_items {x : D} {xs : List D} (h : x = .lst xs ∨ x = .tup xs) : (isL x = true ∧ x = .lst xs) ∨ (isL x = false ∧ x = .tup xs) := by
  rcases h with rfl | rfl
  · exact .inl ⟨rfl, rfl⟩
  · exact .inr ⟨rfl, rfl⟩
theorem piI {n : Nat} (ih : IH n) (g : Good G P k C X) {tg e : Expr} {ir : E} (h : cI (cE n C) C (isTupE tg) e = some ir) (hs : ∀ i, i ∈ svI st ir → i ∉ Γ) : PI X tg e (tI G X.K P Γ st ir) := by
  have base : ∀ {e : Expr} {ir : E}, cE n C e = some ir → (∀ i, i ∈ svI st ir → i ∉ Γ) → PI X tg e (tI G X.K P Γ st ir) := fun {e ir} h hs => pi_val ih g h fun i hi => hs i (svI_ge i hi)
  unfold cI at h
  split at h
  · rename_i f pf args pos
    split at h
    · rename_i ef
      subst ef
      split at h
      · rename_i hc
        simp only [Bool.and_eq_true, Bool.or_eq_true, decide_eq_true_eq] at hc
        split at h
        · rename_i irs hm
          cases h
          have hst := cEs_star hm
          have hg := glB_gl g hc.1
          have hfree := g.free "range" (by decide)
          have pa := pas (st := false) ih g hm (svSL_range hs)
          rcases hc.2 with (hl | hl) | hl
          · match args, hl with
            | [a], _ =>
              obtain ⟨a', ia, ea, rfl, h1⟩ := mapO_one hm rfl
              refine PI_imp (pi_range1 hg hfree pa (star1 (List.all_eq_true.mp hst a (by simp)))) fun σ H R ⟨Z0, env, m, d, m', items, S, ev, ei, q⟩ => ?_
              obtain ⟨ds, e1, e2⟩ := inv_bi ev
              obtain ⟨x, e3, rfl⟩ := inv_one e1
              rcases bi_range e2 with ⟨j, ej, hj, rfl⟩ | ⟨i, j, ej, _⟩ | ⟨i, j, c, ej, _⟩
              · cases ej
                simp only [itemsD, Option.some.injEq] at ei; subst ei
                have hb := ok62_iff.mp hj
                refine ⟨Z0, env, m, [.int j], m', S, e1, fun vs H1 x1 s1 r1 => ?_⟩
                obtain ⟨v, rfl, r⟩ := r1.one
                exact ⟨j, by rw [r.o.int], hb.1, hb.2, q _ _ x1 s1 isp_range⟩
              · cases ej
              · cases ej
          · match args, hl with
            | [a, b], _ =>
              obtain ⟨a', b', ia, ib, ea, rfl, h1, h2⟩ := mapO_two hm rfl
              refine PI_imp (pi_range2 hg hfree pa (star1 (List.all_eq_true.mp hst a (by simp)) |>.trans (by rw [star1 (List.all_eq_true.mp hst b (by simp))]; rfl)) (star1 (List.all_eq_true.mp hst b (by simp)))) fun σ H R ⟨Z0, env, m, d, m', items, S, ev, ei, q⟩ => ?_
              obtain ⟨ds, e1, e2⟩ := inv_bi ev
              obtain ⟨x, m1, ys, e3, e4, rfl⟩ := inv_cons e1
              obtain ⟨y, e5, rfl⟩ := inv_one e4
              rcases bi_range e2 with ⟨j, ej, _⟩ | ⟨i, j, ej, hi, hj, rfl⟩ | ⟨i, j, c, ej, _⟩
              · cases ej
              · cases ej
                simp only [itemsD, Option.some.injEq] at ei; subst ei
                have hb := ok62_iff.mp hj
                have ha := ok62_iff.mp hi
                refine ⟨Z0, env, m, [.int i, .int j], m', S, e1, fun vs H1 x1 s1 r1 => ?_⟩
                obtain ⟨v, u, rfl, r, r'⟩ := r1.two
                exact ⟨i, j, by rw [r.o.int, r'.o.int], ⟨ha.1, ha.2, hb.1, hb.2⟩, q _ _ x1 s1 isp_range⟩
              · cases ej
          · match args, hl with
            | [a, b, c], _ =>
              refine PI_imp (pi_range3 hg hfree pa (star1 (List.all_eq_true.mp hst a (by simp))) (stars_any (List.all_eq_true.mpr fun z hz => List.all_eq_true.mp hst z (List.mem_cons_of_mem _ hz)))) fun σ H R ⟨Z0, env, m, d, m', items, S, ev, ei, q⟩ => ?_
              obtain ⟨ia, is2, h1, hm2, rfl⟩ := mapO_cons hm
              obtain ⟨b', c', ib, ic, _, rfl, h2, h3⟩ := mapO_two hm2 rfl
              obtain ⟨ds, e1, e2⟩ := inv_bi ev
              obtain ⟨x, m1, ys, e3, e4, rfl⟩ := inv_cons e1
              obtain ⟨y, m2, zs, e5, e6, rfl⟩ := inv_cons e4
              obtain ⟨z, e7, rfl⟩ := inv_one e6
              rcases bi_range e2 with ⟨j, ej, _⟩ | ⟨i, j, ej, _⟩ | ⟨i, j, c, ej, hc0, hc1, hsm, rfl⟩
              · cases ej
              · cases ej
              · cases ej
                simp only [itemsD, Option.some.injEq] at ei; subst ei
                refine ⟨Z0, env, m, [.int i, .int j, .int c], m', S, e1, fun vs H1 x1 s1 r1 => ?_⟩
                cases r1 with
                | cons r r1 =>
                  obtain ⟨v, u, rfl, r', r''⟩ := r1.two
                  exact ⟨i, j, c, turns i j c, by rw [r.o.int, r'.o.int, r''.o.int], ⟨hc0, hc1, hsm, rangeSize_turns⟩, q _ _ x1 s1 isp_rangeC⟩
        · cases h
      · cases h
    · split at h
      · rename_i ef
        subst ef
        split at h
        · rename_i hc
          simp only [Bool.and_eq_true, decide_eq_true_eq] at hc
          split at h
          · rename_i irs hm
            cases h
            have hst := cEs_star hm
            have hg := glB_gl g hc.1.1
            have hfree := g.free "enumerate" (by decide)
            obtain ⟨es, kk, tp, rfl⟩ := isTup_of hc.1.2
            obtain ⟨a, ia, rfl, rfl, h1⟩ := mapO_one hm hc.2
            have pa := pas (st := st) ih g hm (svSL_enum (.inl rfl) hs)
            refine PI_imp (pi_enumA hg hfree pa (star1 (cE_star h1))) fun σ H R ⟨Z0, env, m, d, m', items, S, ev, ei, q⟩ => ?_
            obtain ⟨ds, e1, e2⟩ := inv_bi ev
            obtain ⟨x, xs, rfl, ex, hx, rfl⟩ := bi_enum e2
            simp only [itemsD, Option.some.injEq] at ei; subst ei
            refine ⟨Z0, env, m, [x], m', S, e1, fun vs H1 x1 s1 r1 => ?_⟩
            obtain ⟨v, rfl, r⟩ := r1.one
            have A := (S.next x1 s1).amb
            obtain ⟨a, vs, rfl, h2, h3, h4⟩ := items_kp g.ns A r ex
            rcases isL_items hx with ⟨hb, _⟩ | ⟨hb, _⟩
            · rw [hb] at h2 h4
              cases h2 with
              | l h2 => exact ⟨a, vs, rfl, .inl ⟨h2, q _ _ x1 s1 (isp_enum A h3 h4)⟩⟩
            · rw [hb] at h2 h4
              cases h2 with
              | t h2 => exact ⟨a, vs, rfl, .inr ⟨h2, q _ _ x1 s1 (isp_enumT A h3 h4)⟩⟩
          · cases h
        · cases h
      · split at h
        · rename_i ef
          subst ef
          split at h
          · rename_i hc
            simp only [Bool.and_eq_true, decide_eq_true_eq] at hc
            split at h
            · rename_i irs hm
              cases h
              have hst := cEs_star hm
              have hg := glB_gl g hc.1.1
              have hfree := g.free "zip" (by decide)
              obtain ⟨es, kk, tp, rfl⟩ := isTup_of hc.1.2
              obtain ⟨a, b, ia, ib, rfl, rfl, h1, h2⟩ := mapO_two hm hc.2
              have pa := pas (st := st) ih g hm (svSL_enum (.inr (.inl rfl)) hs)
              refine PI_imp (RZ.pi_zipA hg hfree pa (star1 (cE_star h1)) (stars_any (by simp [cE_star h2]))) fun σ H R ⟨Z0, env, m, d, m', items, S, ev, ei, q⟩ => ?_
              obtain ⟨ds, e1, e2⟩ := inv_bi ev
              obtain ⟨x, y, xs, ys, rfl, ex, ey, hx, rfl⟩ := bi_zip e2
              simp only [itemsD, Option.some.injEq] at ei; subst ei
              refine ⟨Z0, env, m, [x, y], m', S, e1, fun vs H1 x1 s1 r1 => ?_⟩
              obtain ⟨v, u, rfl, r, t⟩ := r1.two
              have A := (S.next x1 s1).amb
              obtain ⟨a, vs, rfl, h2, h3, h4⟩ := items_kp g.ns A r ex
              obtain ⟨b, us, rfl, h5, h6, h7⟩ := items_kp g.ns A t ey
              rcases hx with ⟨rfl, rfl⟩ | ⟨rfl, rfl⟩
              · cases h2 with
                | l h2 => cases h5 with
                  | l h5 => exact ⟨a, b, vs, us, rfl, .inl ⟨h2, h5, q _ _ x1 s1 (isp_zip A h3 h6 fun H z => ⟨h4 H z, h7 H z⟩)⟩⟩
              · cases h2 with
                | t h2 => cases h5 with
                  | t h5 => exact ⟨a, b, vs, us, rfl, .inr ⟨h2, h5, q _ _ x1 s1 (isp_zipT A h3 h6 fun H z => ⟨h4 H z, h7 H z⟩)⟩⟩
            · cases h
          · cases h
        · split at h
          · rename_i ef
            subst ef
            split at h
            · rename_i hc
              simp only [Bool.and_eq_true, decide_eq_true_eq] at hc
              split at h
              · rename_i irs hm
                cases h
                have hg := glB_gl g hc.1
                have hfree := g.free "reversed" (by decide)
                obtain ⟨a, ia, rfl, rfl, h1⟩ := mapO_one hm hc.2
                have hs1 := svSL_enum (es := [ia]) (.inr (.inr rfl)) hs
                have pe := ih.e G P k C X Γ a ia st h1 g (fun i hi => hs1 i (by
                  cases st with
                  | true => show i ∈ svM [ia]; rw [svM]; exact List.mem_append_left _ hi
                  | false => show i ∈ svL false [ia]; rw [svL]; exact List.mem_append_left _ hi))
                refine PI_imp (RT.pi_revA hg hfree pe (star1 (cE_star h1))) fun σ H R ⟨Z0, env, m, d, m', items, S, ev, ei, q⟩ => ?_
                obtain ⟨ds, e1, e2⟩ := inv_bi ev
                obtain ⟨x, xs, rfl, ex, hx, rfl⟩ := bi_rev e2
                simp only [itemsD, Option.some.injEq] at ei; subst ei
                obtain ⟨x', e3, ex'⟩ := inv_one e1
                cases ex'
                refine ⟨Z0, env, m, x, m', S, e3, fun v H1 x1 s1 r => ?_⟩
                have A := (S.next x1 s1).amb
                obtain ⟨a, vs, rfl, h2, h3, h4⟩ := items_kp g.ns A r ex
                rcases isL_items hx with ⟨hb, _⟩ | ⟨hb, _⟩
                · rw [hb] at h2 h4
                  cases h2 with
                  | l h2 => exact ⟨a, vs, rfl, .inl ⟨h2, q _ _ x1 s1 (isp_rev A h3 h4)⟩⟩
                · rw [hb] at h2 h4
                  cases h2 with
                  | t h2 => exact ⟨a, vs, rfl, .inr ⟨h2, q _ _ x1 s1 (isp_revT A h3 h4)⟩⟩
              · cases h
            · cases h
          · exact base h hs
  · cases h
  · exact base h hs
end
end Zz
/-! ZSnd4: comprehensions; every expression. -/
namespace Zz
open PySem PySem.Spec PyProof.Rows L2
section
variable {G : Gh} {P : Pr} {k : Nat} {C : CC} {X : Cx} {K : PySem.W.Frag} {Γ Γ' : List Nat} {Z Z0 : Addr → Prop} {σ σ' : L2.St} {H H' H1 : Hp} {env env' : Env} {m m' m1 mi : List D} {st : Bool} {d : D} {v : V}

theorem locB_iff {sc : Scope} {x : Str} (h : locB sc x = true) : Loc sc x := by
  unfold locB at h
  split at h
  · rename_i e; exact .inl e
  · rename_i e; exact .inr e
  · cases h
/-- the context of a block -/
theorem Good.blk (g : Good G P k C X) {sc : Scope} (hk : sc.kind = .function) (s : Shared) (H : Hp) (Cc : Addr) (cl : List (Str × Addr)) (fp : List Addr) :
    Good G P k { C with sc := scR sc C.sc, own := sc } (X.blk s H sc (compEnvC sc cl Cc X.env) fp) where
  ns := g.ns
  N := g.N
  nd := g.nd
  sc := by
    show relabel sc X.env = relS sc C.sc
    rw [← g.sc]; rfl
  kind := hk
  calm := g.calm
  xe := rfl
  room := g.room
  stor := fun x hx => by
    have hl := locB_iff hx
    rcases hl with h | h
    · have : (scR sc C.sc).names.lookup x = some .local := lookup_relS_keep (by decide) h
      exact ⟨.inl this, .inr this⟩
    · have : (scR sc C.sc).names.lookup x = some .cell := lookup_relS_keep (by decide) h
      refine ⟨.inr this, .inl ?_⟩
      show (sc.names.lookup x == some .cell) = true
      rw [h]; rfl
  free := g.free
  gcd := g.gcd
  call := g.call

/-- a new list D is being filled -/
theorem SR.blk {D : Addr} (S : SR G K Γ Z0 σ H1 env m) (hD : H1 D = none) (kp : ∀ b o, b ≠ G.sa → H1 b = some o → H b = some o) (hDt : H D ≠ none)
    (hst : StR G (Zs Γ σ fun b => Z0 b ∨ b = D) H mi) : SR G K Γ (fun b => Z0 b ∨ b = D) σ H env mi := by
  have hz : ∀ b o, Zs Γ σ (fun b => Z0 b ∨ b = D) b → H1 b = some o → Zs Γ σ Z0 b := fun b o z e => by
    rcases z with (z | rfl) | z
    · exact .inl z
    · rw [hD] at e; cases e
    · exact .inr z
  have k : ∀ b o, ¬ Zs Γ σ Z0 b → H1 b = some o → H b = some o := fun b o n e => kp b o (fun z => n (.inl (z ▸ S.zsa))) e
  have sa1 : ∃ vs, H1 G.sa = some (.lst vs) := let ⟨vs, q, _⟩ := S.amb.st; ⟨vs, q⟩
  refine ⟨S.len, ⟨hst, .inl (.inl S.zsa), fun a z => ?_, S.amb.scr.ext (fun b o n e => kp b o n e) sa1⟩, .inl S.zsa, fun i d e n => ?_, fun i hi => ?_, S.dist⟩
  · by_cases ea : a = G.sa
    · obtain ⟨vs, q, _⟩ := hst; rw [ea, q]; simp
    · have : Zs Γ σ Z0 a ∨ a = D := by
        rcases z with (z | z) | z
        · exact .inl (.inl z)
        · exact .inr z
        · exact .inl (.inr z)
      rcases this with z | rfl
      · cases q : H1 a with
        | none => exact absurd q (S.amb.zin a z)
        | some o => rw [kp a o ea q]; simp
      · exact hDt
  · obtain ⟨v, h1, h2⟩ := S.vals i d e n
    exact ⟨v, h1, h2.mono k hz⟩
  · obtain ⟨a, vs, ds, h1, h2, h3, h4, h5⟩ := S.owns i hi
    refine ⟨a, vs, ds, h1, h2, kp a _ (fun z => h5 (z ▸ S.zsa)) h3, h4.mono k hz, fun z => ?_⟩
    rcases z with z | rfl
    · exact h5 z
    · rw [hD] at h3; cases h3

theorem inv_comp {own : List Nat} {t : T} {it : E} {ifs : List E} {x : E} (h : evE P (.comp own t it ifs x) env m = some (d, m')) : ∃ di m1 items ys, evE P it env m = some (di, m1) ∧ itemsD P di = some items ∧
    lcGo (fun x' m => match asgT t x' (wipeE env own) with
          | some e1 => match evIfs P ifs e1 m with
            | some (true, m2) => match evE P x e1 m2 with | some (y, m3) => some ([y], m3) | none => none
            | some (false, m2) => some ([], m2)
            | none => none
          | none => none) items m1 = some (ys, m') ∧ lenOk ys.length = true ∧ d = .lst ys := by
  simp only [evE] at h
  split at h
  · rename_i di m1 h1
    split at h
    · rename_i items h2
      split at h
      · rename_i ys m2 h3
        split at h
        · rename_i h4; cases h; exact ⟨di, m1, items, ys, h1, h2, h3, h4, rfl⟩
        · cases h
      · cases h
    · cases h
  · cases h
theorem inv_lc {f : D → List D → Option (List D × List D)} {x : D} {xs ys : List D} (h : lcGo f (x :: xs) m = some (ys, m')) : ∃ zs m1 ws, f x m = some (zs, m1) ∧ lcGo f xs m1 = some (ws, m') ∧ ys = zs ++ ws := by
  simp only [lcGo] at h
  split at h
  · rename_i zs m1 h1
    split at h
    · rename_i ws m2 h2; cases h; exact ⟨zs, m1, ws, h1, h2, rfl⟩
    · cases h
  · cases h
theorem ifs0 {e : Env} {b : Bool} (h : evIfs P [] e m = some (b, m')) : b = true ∧ m' = m := by
  simp only [evIfs, Option.some.injEq, Prod.mk.injEq] at h
  exact ⟨h.1.symm, h.2.symm⟩
theorem ifs1 {a : E} {e : Env} {b : Bool} (h : evIfs P [a] e m = some (b, m')) : ∃ x, evE P a e m = some (x, m') ∧ truD P x = some b := by
  simp only [evIfs] at h
  split at h
  · rename_i x m1 h1
    split at h
    · rename_i h2; cases h; exact ⟨x, h1, h2⟩
    · rename_i h2; cases h; exact ⟨x, h1, h2⟩
    · cases h
  · cases h
/-- the tests of a comprehension: none or one -/
def tIf (G : Gh) (K : PySem.W.Frag) (P : Pr) (Γ : List Nat) (irs : List E) : TT := fun σ H Q =>
  ∃ Z0 env m m' b, SR G K Γ Z0 σ H env m ∧ evIfs P irs env m = some (b, m') ∧ ∀ H', Ext G H H' → StR G (Zs Γ σ Z0) H' m' → Q b H'
theorem PTs_imp {e : List Expr} {t t' : TT} (h : PTs X e t) (i : ∀ σ H Q, t' σ H Q → t σ H Q) : PTs X e t' := ⟨fun pins s σ H Q I q => h.run pins s σ H Q I (i σ H Q q)⟩
theorem ptsI {n : Nat} (ih : IH n) (g : Good G P k C X) {ifs : List Expr} {irs : List E} (hl : ifs.length ≤ 1) (h : mapO (cE n C) ifs = some irs) (hs : ∀ i, i ∈ svL true irs → i ∉ Γ) : PTs X ifs (tIf G X.K P Γ irs) := by
  match ifs, hl with
  | [], _ =>
    simp only [mapO, Option.some.injEq] at h; subst h
    refine PTs_imp pts_nil fun σ H Q ⟨Z0, env, m, m', b, S, ev, q⟩ => ?_
    obtain ⟨rfl, rfl⟩ := ifs0 ev
    exact q H (Ext.refl _) S.amb.st
  | [c], _ =>
    obtain ⟨a, ia, ea, rfl, h1⟩ := mapO_one h rfl
    cases ea
    refine PTs_imp (pts_one (ih.t G P k C X Γ c ia h1 g fun i hi => hs i (by rw [svL]; exact List.mem_append_left _ hi))) fun σ H Q ⟨Z0, env, m, m', b, S, ev, q⟩ => ?_
    obtain ⟨x, e1, e2⟩ := ifs1 ev
    exact ⟨Z0, env, m, x, m', b, S, e1, e2, q⟩
theorem wipe_chg {l : List Nat} {own : List Nat} (hl : ∀ j, j ∈ l → j ∈ own) (c : Chg (wipe σ own) σ' l) (len : σ'.length = (wipe σ own).length) : wipe σ' own = wipe σ own := by
  have out : ∀ (τ : L2.St) (own : List Nat) (j : Nat), j ∉ own → (wipe τ own)[j]? = τ[j]? := by
    intro τ own
    induction own with
    | nil => intro j _; rfl
    | cons i is ih =>
      intro j hj
      simp only [List.mem_cons, not_or] at hj
      unfold wipe
      rw [List.getElem?_set_ne (fun e => hj.1 e.symm)]
      exact ih j hj.2
  have inn : ∀ (τ : L2.St) (own : List Nat) (j : Nat), j ∈ own → (wipe τ own)[j]? = if j < τ.length then some none else none := by
    intro τ own
    induction own with
    | nil => intro j h; cases h
    | cons i is ih =>
      intro j hj
      unfold wipe
      by_cases e : i = j
      · subst e
        by_cases hlt : i < τ.length
        · rw [if_pos hlt, List.getElem?_set_self (by rw [wipe_length]; exact hlt)]
        · rw [if_neg hlt, List.getElem?_eq_none (by rw [List.length_set, wipe_length]; omega)]
      · rw [List.getElem?_set_ne e]
        rcases List.mem_cons.mp hj with h | h
        · exact absurd h.symm e
        · exact ih j h
  rw [wipe_length] at len
  apply List.ext_getElem?
  intro j
  by_cases hj : j ∈ own
  · rw [inn σ' own j hj, inn σ own j hj, len]
  · rw [out σ' own j hj]
    exact c j (fun h => hj (hl j h))

/-- a comprehension; it gives a list that is new -/
def FrL (G : Gh) (Z : Addr → Prop) (H H' : Hp) (m : List D) (d : D) (v : V) : Prop := ∃ p vs ds, v = .ref p ∧ d = .lst ds ∧ H p = none ∧ H' p = some (.lst vs) ∧ Reps G (fun b => Z b ∨ b = p) H' ds vs ∧ StR G (fun b => Z b ∨ b = p) H' m
def tDF (G : Gh) (K : PySem.W.Frag) (P : Pr) (Γ : List Nat) (ir : E) : TE := fun σ H Q =>
  ∃ Z0 env m d m', SR G K Γ Z0 σ H env m ∧ evE P ir env m = some (d, m') ∧ ∀ v H', Ext G H H' → StR G (Zs Γ σ Z0) H' m' → Rep G (Zs Γ σ Z0) H' d v → FrL G (Zs Γ σ Z0) H H' m' d v → Q v H'
theorem tDF_D {ir : E} {σ : L2.St} {H : Hp} {Q : VK} (h : tD G K P Γ st ir σ H Q) : tDF G K P Γ ir σ H Q := by
  obtain ⟨Z0, env, m, d, m', S, ev, q⟩ := h
  exact ⟨Z0, env, m, d, m', S, ev, fun v H' a b r _ => q v H' a b (.of r)⟩
theorem lc_reads {own : List Nat} {t : T} {iit ix : E} {iifs : List E} {Q : VK} (s1 : ∀ i, i ∈ own → i ∉ Γ) (htv : ∀ j, j ∈ tv t → j ∈ own) (h : tDF G K P Γ (.comp own t iit iifs ix) σ H Q) :
    tLc (tI G K P Γ false iit) (tG G K Γ t) (tIf G K P Γ iifs) (tD G K P Γ true ix) own σ H Q := by
  obtain ⟨Z0, env, m, d, m', S, ev, q⟩ := h
  obtain ⟨di, m1, items, ys, e1, e2, e3, e4, rfl⟩ := inv_comp ev
  refine ⟨Z0, env, m, di, m1, items, S, e1, e2, fun J H1 x1 st1 ⟨Gd, Y, walk, kG, yld⟩ Da hD => ?_⟩
  have S1 := S.next x1 st1
  have ysl := lenOk_iff.mp e4
  have wf : wipe σ own = wipe σ own := rfl
  -- the invariant: what is made so far, what is left
  let ZD : Addr → Prop := fun b => Z0 b ∨ b = Da
  let f : D → List D → Option (List D × List D) := fun x' m => match asgT t x' (wipeE env own) with
          | some e1 => match evIfs P iifs e1 m with
            | some (true, m2) => match evE P ix e1 m2 with | some (y, m3) => some ([y], m3) | none => none
            | some (false, m2) => some ([], m2)
            | none => none
          | none => none
  have hsaD : G.sa ≠ Da := fun e => by
    obtain ⟨vs, z, _⟩ := st1
    rw [e, hD] at z; cases z
  refine lc_it walk (vs := own) (σ := σ) (Qd := Q (.ref Da)) (fun i H => ∃ mi acc ds rest, H Da = some (.lst acc) ∧ Reps G (Zs Γ σ ZD) H ds acc ∧ StR G (Zs Γ σ ZD) H mi ∧ (∀ b o, b ≠ G.sa → H1 b = some o → H b = some o) ∧
      lcGo f (items.drop i) mi = some (rest, m') ∧ ys = ds ++ rest) ?_ ?_ ?_ ?_
  · refine ⟨m1, [], [], ys, upd_same, .nil, ?_, fun b o _ e => by rw [upd_ne (ne_of_none e hD)]; exact e, by rw [List.drop_zero]; exact e3, rfl⟩
    obtain ⟨vs, z, r⟩ := st1
    refine ⟨vs, by rw [upd_ne hsaD]; exact z, r.mono (fun b o _ e => by rw [upd_ne (ne_of_none e hD)]; exact e) fun b o z e => ?_⟩
    rcases z with (z | rfl) | z
    · exact .inl z
    · rw [hD] at e; cases e
    · exact .inr z
  · rintro i H2 hi ⟨mi, acc, ds, rest, h1, h2, h3, h4, h5, h6⟩
    exact kG H2 ⟨S1.amb.scr.ext (fun b o n e => h4 b o n e) (let ⟨vs, q, _⟩ := S1.amb.st; ⟨vs, q⟩), fun b o _ n e => h4 b o n e⟩
  · rintro i x H2 H3 hi ⟨mi, acc, ds, rest, h1, h2, h3, h4, h5, h6⟩ hy
    have S2 : SR G K Γ ZD σ H2 env mi := S1.blk hD h4 (by rw [h1]; simp) h3
    obtain ⟨sm, d, hd, hr⟩ := yld i H2 x H3 (Zs Γ σ ZD) hi ⟨S2.amb.scr, fun b o _ n e => h4 b o n e⟩ (fun b o z e => by
      rcases z with (z | rfl) | z
      · exact .inl z
      · rw [hD] at e; cases e
      · exact .inr z) (fun b z => S2.amb.zin b z) hy
    have S3 : SR G K Γ ZD σ H3 env mi := S2.next (Ext.of sm) ((S2.amb.same sm).st)
    have hD3 := sm Da _ h1
    have h2' := S2.amb.reps (Ext.of sm) h2
    have hdrop : items.drop i = d :: items.drop (i + 1) := by
      have hlt := (List.getElem?_eq_some_iff.mp hd).1
      rw [List.drop_eq_getElem_cons hlt, (List.getElem?_eq_some_iff.mp hd).2]
    rw [hdrop] at h5
    obtain ⟨zs, m2, ws, f1, f2, rfl⟩ := inv_lc h5
    have S4 := S3.wipe s1
    have hzw : Zs Γ (wipe σ own) ZD = Zs Γ σ ZD := by
      have out : ∀ (own : List Nat) (j : Nat), j ∉ own → (wipe σ own)[j]? = σ[j]? := by
        intro own
        induction own with
        | nil => intro j _; rfl
        | cons i is ih2 =>
          intro j hj
          simp only [List.mem_cons, not_or] at hj
          unfold wipe
          rw [List.getElem?_set_ne (fun e => hj.1 e.symm)]
          exact ih2 j hj.2
      exact Zs_congr fun j hj => out own j fun z => s1 j z hj
    simp only [f] at f1
    split at f1
    case h_2 => cases f1
    case h_1 env1 he1 =>
    refine ⟨ZD, wipeE env own, mi, d, env1, S4, he1, by rw [hzw]; exact hr, fun σ5 S5 c5 l5 => ⟨wipe_chg htv c5 l5, ?_⟩⟩
    have hz5 : Zs Γ σ5 ZD = Zs Γ σ ZD := by
      rw [← hzw]; exact Zs_congr fun j hj => c5 j fun z => s1 j (htv j z) hj
    have kk : ∀ {H4 : Hp}, Ext G H3 H4 → ∀ b o, b ≠ G.sa → H1 b = some o → H4 b = some o := fun x b o n e => x b o n (sm b o (h4 b o n e))
    split at f1
    case h_3 => cases f1
    case h_2 m3 hm3 =>
      cases f1
      refine ⟨ZD, env1, mi, m2, false, S5, hm3, fun H4 x4 st4 => ?_⟩
      rw [hz5] at st4
      refine iteF ⟨m2, acc, ds, ws, x4 Da _ hsaD.symm hD3, S3.amb.reps x4 h2', st4, kk x4, f2, by simpa using h6⟩
    case h_1 m3 hm3 =>
      split at f1
      case h_2 => cases f1
      case h_1 y m4 hy4 =>
        cases f1
        refine ⟨ZD, env1, mi, m3, true, S5, hm3, fun H4 x4 st4 => iteT ?_⟩
        have S6 := S5.next x4 st4
        refine ⟨ZD, env1, m3, y, m2, S6, hy4, fun v H5 x5 st5 r5 => ?_⟩
        have hD5 : H5 Da = some (.lst acc) := x5 Da _ hsaD.symm (x4 Da _ hsaD.symm hD3)
        rw [hz5] at st5
        have r5' : Rep G (Zs Γ σ ZD) H5 y v := by rw [← hz5]; exact r5
        have acc5 : Reps G (Zs Γ σ ZD) H5 ds acc := (S3.amb.reps (x4.trans x5) h2')
        have hlen : acc.length < sizeLine := by
          have e7 := acc5.length
          rw [h6] at ysl
          simp only [List.length_append, List.length_cons, List.length_nil] at ysl
          omega
        have kD : ∀ b o, ¬ Zs Γ σ ZD b → H5 b = some o → (upd H5 Da (.lst (acc ++ [v]))) b = some o := fun b o n e => by
          rw [upd_ne (fun z => n (.inl (.inr z)))]; exact e
        refine ⟨acc, hD5, hlen, m2, acc ++ [v], ds ++ [y], ws, upd_same, (acc5.snoc r5').mono kD fun b _ z _ => z, ?_, fun b o n e => ?_, f2, by simp [h6]⟩
        · obtain ⟨vs, z, r⟩ := st5
          exact ⟨vs, by rw [upd_ne hsaD]; exact z, r.mono kD fun b _ z _ => z⟩
        · have hne : b ≠ Da := ne_of_none e hD
          rw [upd_ne hne]
          exact kk (x4.trans x5) b o n e
  · rintro H2 ⟨mi, acc, ds, rest, h1, h2, h3, h4, h5, h6⟩
    rw [List.drop_length] at h5
    simp only [lcGo, Option.some.injEq, Prod.mk.injEq] at h5
    obtain ⟨rfl, rfl⟩ := h5
    rw [List.append_nil] at h6
    subst h6
    have hZ : ∀ b, Zs Γ σ Z0 b → Zs Γ σ ZD b := fun b z => by
      rcases z with z | z
      · exact .inl (.inl z)
      · exact .inr z
    have hZD : ∀ b, Zs Γ σ Z0 b ∨ b = Da → Zs Γ σ ZD b := fun b z => by
      rcases z with z | rfl
      · exact hZ b z
      · exact .inl (.inr rfl)
    have nD : ¬ Zs Γ σ Z0 Da := fun z => S1.amb.zin Da z hD
    have hHD : H Da = none := by
      cases e : H Da with
      | none => rfl
      | some o => rw [x1 Da o hsaD.symm e] at hD; cases hD
    refine q _ _ (x1.trans fun b o n e => h4 b o n e) ?_ (.lst h1 nD (h2.mono (fun _ _ _ e => e) fun b _ z _ => hZ b z)) ⟨Da, acc, _, rfl, rfl, hHD, h1, h2.mono (fun _ _ _ e => e) fun b _ z _ => ?_, let ⟨vs, z, r⟩ := h3; ⟨vs, z, r.mono (fun _ _ _ e => e) fun b _ z _ => hZD b z⟩⟩
    · obtain ⟨vs, z, r⟩ := h3
      exact ⟨vs, z, r.mono (fun _ _ _ e => e) fun b _ z _ => hZ b z⟩
    · exact hZD b z
/-- the parts of a comprehension -/
structure LcP (G : Gh) (P : Pr) (Γ : List Nat) (X : Cx) (elt tg it : Expr) (ifs : List Expr) (sc : Scope) (own : List (Str × Nat)) (t : T) (iit ix : E) (iifs : List E) : Prop where
  pi : PI X tg it (tI G X.K P Γ false iit)
  ok : BlkOk X.N X.env.scope sc own
  pg : ∀ (s : Shared) (H : Hp) (Cc : Addr) (cl : List (Str × Addr)) (fp : List Addr), PG (X.blk s H sc (compEnvC sc cl Cc X.env) fp) tg (tG G X.K Γ t)
  pt : ∀ (s : Shared) (H : Hp) (Cc : Addr) (cl : List (Str × Addr)) (fp : List Addr), PTs (X.blk s H sc (compEnvC sc cl Cc X.env) fp) ifs (tIf G X.K P Γ iifs)
  pe : ∀ (s : Shared) (H : Hp) (Cc : Addr) (cl : List (Str × Addr)) (fp : List Addr), PE (X.blk s H sc (compEnvC sc cl Cc X.env) fp) elt (tD G X.K P Γ true ix)
theorem lc_parts {n : Nat} (ih : IH n) (g : Good G P k C X) {elt tg it : Expr} {ifs : List Expr} {sc : Scope} {t : T} {iit ix : E} {iifs : List E} (hb : blkC C.N C.sc sc (ownN C.N sc.names) = true) (hl : ifs.length ≤ 1)
    (ht : cT n { C with sc := scR sc C.sc, own := sc } tg = some t) (hi : cI (cE n C) C (isTupE tg) it = some iit) (hf : mapO (cE n { C with sc := scR sc C.sc, own := sc }) ifs = some iifs) (he : cE n { C with sc := scR sc C.sc, own := sc } elt = some ix)
    (htv : ∀ j, j ∈ tv t → j ∈ (ownN C.N sc.names).map (·.2)) (hs : ∀ i, i ∈ sv false (.comp ((ownN C.N sc.names).map (·.2)) t iit iifs ix) → i ∉ Γ) :
    LcP G P Γ X elt tg it ifs sc (ownN C.N sc.names) t iit ix iifs ∧ (∀ i, i ∈ (ownN C.N sc.names).map (·.2) → i ∉ Γ) := by
  have hk : sc.kind = .function := (blkOk_by hb).kind
  have hbo : BlkOk X.N X.env.scope sc (ownN C.N sc.names) := by rw [g.N, g.sc]; exact blkOk_by hb
  have s1 : ∀ i, i ∈ (ownN C.N sc.names).map (·.2) → i ∉ Γ := fun i h => hs i (by rw [sv]; exact List.mem_append_left _ h)
  have s2 : ∀ i, i ∈ sv false iit → i ∉ Γ := fun i h => hs i (by rw [sv]; exact List.mem_append_right _ (List.mem_append_left _ h))
  have s3 : ∀ i, i ∈ svL true iifs → i ∉ Γ := fun i h => hs i (by rw [sv]; exact List.mem_append_right _ (List.mem_append_right _ (List.mem_append_left _ h)))
  have s4 : ∀ i, i ∈ svS true ix → i ∉ Γ := fun i h => hs i (by rw [sv]; exact List.mem_append_right _ (List.mem_append_right _ (List.mem_append_right _ h)))
  exact ⟨⟨piI (st := false) ih g hi (by intro i h; exact s2 i h), hbo, fun s H Cc cl fp => pgT n ht (g.blk hk s H Cc cl fp) fun i h => s1 i (htv i h),
    fun s H Cc cl fp => ptsI ih (g.blk hk s H Cc cl fp) hl hf s3, fun s H Cc cl fp => ih.e G P k _ _ Γ elt ix true he (g.blk hk s H Cc cl fp) s4⟩, s1⟩
theorem pe_comp {n : Nat} (ih : IH n) (g : Good G P k C X) {elt tg it : Expr} {ifs : List Expr} {sc : Scope} {pos : Pos} {t : T} {iit ix : E} {iifs : List E} (hb : blkC C.N C.sc sc (ownN C.N sc.names) = true) (hl : ifs.length ≤ 1)
    (ht : cT n { C with sc := scR sc C.sc, own := sc } tg = some t) (hi : cI (cE n C) C (isTupE tg) it = some iit) (hf : mapO (cE n { C with sc := scR sc C.sc, own := sc }) ifs = some iifs) (he : cE n { C with sc := scR sc C.sc, own := sc } elt = some ix)
    (htv : ∀ j, j ∈ tv t → j ∈ (ownN C.N sc.names).map (·.2)) (hs : ∀ i, i ∈ sv false (.comp ((ownN C.N sc.names).map (·.2)) t iit iifs ix) → i ∉ Γ)
    (hfold : ∀ x, foldedSetIterable it X.env x = pure x) : PE X (.ListComp elt [⟨tg, it, ifs, 0⟩] sc pos) (tDF G X.K P Γ (.comp ((ownN C.N sc.names).map (·.2)) t iit iifs ix)) := by
  obtain ⟨L, s1⟩ := lc_parts ih g hb hl ht hi hf he htv hs
  exact PE_imp (pe_lc (g := tG G X.K Γ t) (tt := tIf G X.K P Γ iifs) (te := tD G X.K P Γ true ix) g.calm (by rw [g.N]; exact g.nd) L.pi L.ok L.pg L.pt L.pe hfold) fun σ H Q h => lc_reads s1 htv h
end
end Zz
/-! ZSnd5: every expression. -/
namespace Zz
open PySem PySem.Spec PyProof.Rows L2
section
variable {G : Gh} {P : Pr} {k : Nat} {C : CC} {X : Cx} {K : PySem.W.Frag} {Γ Γ' : List Nat} {Z Z0 : Addr → Prop} {σ σ' : L2.St} {H H' H1 : Hp} {env env' : Env} {m m' m1 mi : List D} {st : Bool} {d : D} {v : V}

theorem svS_nv {ir : E} (h : ∀ i, ir ≠ .var i) : svS st ir = sv false ir := by
  unfold svS
  split
  · unfold stv
    split
    · exact absurd rfl (h _)
    · rfl
  · rfl
theorem last_marks {n : Nat} : ∀ {ops : List CmpOp} {bs : List Expr} {irs : List E}, mapO (cE n C) bs = some irs → lastMarks ops bs = false
  | [], bs, irs, h => by cases bs <;> rfl
  | [op], [], irs, h => rfl
  | [op], [b], irs, h => by
    obtain ⟨ir, _, h1, _⟩ := mapO_cons h
    exact cE_mark h1 op
  | [op], b :: b' :: bs, irs, h => by
    obtain ⟨ir, irs', h1, h2, _⟩ := mapO_cons h
    show lastMarks [] (b' :: bs) = false
    rfl
  | op :: op' :: ops, [], irs, h => rfl
  | op :: op' :: ops, b :: bs, irs, h => by
    obtain ⟨ir, irs', h1, h2, _⟩ := mapO_cons h
    show lastMarks (op' :: ops) bs = false
    exact last_marks h2
/-- a value by its operation -/
theorem new_post {H2 : Hp} {m2 : List D} {Q : VK} (A : Amb G K Z H2 m2) (x : Ext G H H2) (q : ∀ v H', Ext G H H' → StR G Z H' m2 → RepB G st Z H' d v → Q v H') : ∀ v H', New G Z H2 H' d v → Q v H' :=
  fun v H' nw => q v H' (x.trans (Ext.of nw.same)) (A.same nw.same).st (.of nw.rep)

/-! and, or -/
def tAO (G : Gh) (K : PySem.W.Frag) (P : Pr) (Γ : List Nat) (o : Bool) (irs : List E) : TE := fun σ H Q =>
  ∃ Z0 env m d m', SR G K Γ Z0 σ H env m ∧ (if o then evOr P irs env m else evAnd P irs env m) = some (d, m') ∧ ∀ v H', Ext G H H' → StR G (Zs Γ σ Z0) H' m' → Rep G (Zs Γ σ Z0) H' d v → Q v H'
theorem pe_andL {n : Nat} (ih : IH n) (g : Good G P k C X) {pos : Pos} : ∀ {es : List Expr} {irs : List E}, mapO (cE n C) es = some irs → irs ≠ [] → (∀ i, i ∈ svM irs → i ∉ Γ) → PE X (.BoolOp .And es pos) (tAO G X.K P Γ false irs)
  | [], irs, h, hn, _ => by simp only [mapO, Option.some.injEq] at h; subst h; exact absurd rfl hn
  | [a], irs, h, hn, hs => by
    obtain ⟨a', ia, ea, rfl, h1⟩ := mapO_one h rfl
    cases ea
    refine PE_imp (pe_one (ih.e G P k C X Γ a ia true h1 g fun i hi => hs i (by rw [svM]; exact List.mem_append_left _ hi))) fun σ H Q ⟨Z0, env, m, d, m', S, ev, q⟩ => ?_
    rw [if_neg (by decide), and1] at ev
    exact ⟨Z0, env, m, d, m', S, ev, q⟩
  | a :: b :: es, irs, h, hn, hs => by
    obtain ⟨ia, irs1, h1, h2, rfl⟩ := mapO_cons h
    obtain ⟨ib, irs2, h3, h4, rfl⟩ := mapO_cons h2
    have pa := ih.e G P k C X Γ a ia true h1 g fun i hi => hs i (by rw [svM]; exact List.mem_append_left _ hi)
    have pb := pe_andL ih g (pos := pos) (es := b :: es) h2 (by simp) fun i hi => hs i (by rw [svM]; exact List.mem_append_right _ hi)
    refine PE_imp (pe_andT pa pb) fun σ H Q ⟨Z0, env, m, d, m', S, ev, q⟩ => ?_
    rw [if_neg (by decide)] at ev
    obtain ⟨x, m1, e1, e2⟩ := inv_and2 ev
    refine ⟨Z0, env, m, x, m1, S, e1, fun v H1 x1 s1 r1 => ?_⟩
    have S1 := S.next x1 s1
    rcases e2 with ⟨ht, e2⟩ | ⟨ht, rfl, rfl⟩
    · refine ⟨true, truV_of g.ns S1.amb (RepB.o r1) ht, iteT ⟨Z0, env, m1, d, m', S1, ?_, fun v' H' x' s' r' => q v' H' (x1.trans x') s' r'⟩⟩
      rw [if_neg (by decide)]; exact e2
    · exact ⟨false, truV_of g.ns S1.amb (RepB.o r1) ht, iteF (q v H1 x1 s1 r1)⟩
theorem pe_orL {n : Nat} (ih : IH n) (g : Good G P k C X) {pos : Pos} : ∀ {es : List Expr} {irs : List E}, mapO (cE n C) es = some irs → irs ≠ [] → (∀ i, i ∈ svM irs → i ∉ Γ) → PE X (.BoolOp .Or es pos) (tAO G X.K P Γ true irs)
  | [], irs, h, hn, _ => by simp only [mapO, Option.some.injEq] at h; subst h; exact absurd rfl hn
  | [a], irs, h, hn, hs => by
    obtain ⟨a', ia, ea, rfl, h1⟩ := mapO_one h rfl
    cases ea
    refine PE_imp (pe_one (ih.e G P k C X Γ a ia true h1 g fun i hi => hs i (by rw [svM]; exact List.mem_append_left _ hi))) fun σ H Q ⟨Z0, env, m, d, m', S, ev, q⟩ => ?_
    rw [if_pos rfl, or1] at ev
    exact ⟨Z0, env, m, d, m', S, ev, q⟩
  | a :: b :: es, irs, h, hn, hs => by
    obtain ⟨ia, irs1, h1, h2, rfl⟩ := mapO_cons h
    obtain ⟨ib, irs2, h3, h4, rfl⟩ := mapO_cons h2
    have pa := ih.e G P k C X Γ a ia true h1 g fun i hi => hs i (by rw [svM]; exact List.mem_append_left _ hi)
    have pb := pe_orL ih g (pos := pos) (es := b :: es) h2 (by simp) fun i hi => hs i (by rw [svM]; exact List.mem_append_right _ hi)
    refine PE_imp (pe_orT pa pb) fun σ H Q ⟨Z0, env, m, d, m', S, ev, q⟩ => ?_
    rw [if_pos rfl] at ev
    obtain ⟨x, m1, e1, e2⟩ := inv_or2 ev
    refine ⟨Z0, env, m, x, m1, S, e1, fun v H1 x1 s1 r1 => ?_⟩
    have S1 := S.next x1 s1
    rcases e2 with ⟨ht, e2⟩ | ⟨ht, rfl, rfl⟩
    · refine ⟨false, truV_of g.ns S1.amb (RepB.o r1) ht, iteF ⟨Z0, env, m1, d, m', S1, ?_, fun v' H' x' s' r' => q v' H' (x1.trans x') s' r'⟩⟩
      rw [if_pos rfl]; exact e2
    · exact ⟨true, truV_of g.ns S1.amb (RepB.o r1) ht, iteT (q v H1 x1 s1 r1)⟩
def tAOT (G : Gh) (K : PySem.W.Frag) (P : Pr) (Γ : List Nat) (o : Bool) (irs : List E) : TT := fun σ H Q =>
  ∃ Z0 env m d m' b, SR G K Γ Z0 σ H env m ∧ (if o then evOr P irs env m else evAnd P irs env m) = some (d, m') ∧ truD P d = some b ∧ ∀ H', Ext G H H' → StR G (Zs Γ σ Z0) H' m' → Q b H'
theorem pw_andL {n : Nat} (ih : IH n) (g : Good G P k C X) {pos : Pos} : ∀ {es : List Expr} {irs : List E}, mapO (cE n C) es = some irs → irs ≠ [] → (∀ i, i ∈ svL true irs → i ∉ Γ) → PW X (.BoolOp .And es pos) (tAOT G X.K P Γ false irs)
  | [], irs, h, hn, _ => by simp only [mapO, Option.some.injEq] at h; subst h; exact absurd rfl hn
  | [a], irs, h, hn, hs => by
    obtain ⟨a', ia, ea, rfl, h1⟩ := mapO_one h rfl
    cases ea
    refine PW_imp (pw_and1 (ih.t G P k C X Γ a ia h1 g fun i hi => hs i (by rw [svL]; exact List.mem_append_left _ hi))) fun σ H Q ⟨Z0, env, m, d, m', b, S, ev, et, q⟩ => ?_
    rw [if_neg (by decide), and1] at ev
    exact ⟨Z0, env, m, d, m', b, S, ev, et, q⟩
  | a :: b :: es, irs, h, hn, hs => by
    obtain ⟨ia, irs1, h1, h2, rfl⟩ := mapO_cons h
    obtain ⟨ib, irs2, h3, h4, rfl⟩ := mapO_cons h2
    have pa := ih.t G P k C X Γ a ia h1 g fun i hi => hs i (by rw [svL]; exact List.mem_append_left _ hi)
    have pb := pw_andL ih g (pos := pos) (es := b :: es) h2 (by simp) fun i hi => hs i (by rw [svL]; exact List.mem_append_right _ hi)
    refine PW_imp (pw_and pa pb) fun σ H Q ⟨Z0, env, m, d, m', b, S, ev, et, q⟩ => ?_
    rw [if_neg (by decide)] at ev
    obtain ⟨x, m1, e1, e2⟩ := inv_and2 ev
    rcases e2 with ⟨ht, e2⟩ | ⟨ht, rfl, rfl⟩
    · refine ⟨Z0, env, m, x, m1, true, S, e1, ht, fun H1 x1 s1 => iteT ⟨Z0, env, m1, d, m', b, S.next x1 s1, ?_, et, fun H' x' s' => q H' (x1.trans x') s'⟩⟩
      rw [if_neg (by decide)]; exact e2
    · rw [ht] at et; cases et
      exact ⟨Z0, env, m, _, _, false, S, e1, ht, fun H1 x1 s1 => iteF (q H1 x1 s1)⟩
theorem pw_orL {n : Nat} (ih : IH n) (g : Good G P k C X) {pos : Pos} : ∀ {es : List Expr} {irs : List E}, mapO (cE n C) es = some irs → irs ≠ [] → (∀ i, i ∈ svL true irs → i ∉ Γ) → PW X (.BoolOp .Or es pos) (tAOT G X.K P Γ true irs)
  | [], irs, h, hn, _ => by simp only [mapO, Option.some.injEq] at h; subst h; exact absurd rfl hn
  | [a], irs, h, hn, hs => by
    obtain ⟨a', ia, ea, rfl, h1⟩ := mapO_one h rfl
    cases ea
    refine PW_imp (pw_or1 (ih.t G P k C X Γ a ia h1 g fun i hi => hs i (by rw [svL]; exact List.mem_append_left _ hi))) fun σ H Q ⟨Z0, env, m, d, m', b, S, ev, et, q⟩ => ?_
    rw [if_pos rfl, or1] at ev
    exact ⟨Z0, env, m, d, m', b, S, ev, et, q⟩
  | a :: b :: es, irs, h, hn, hs => by
    obtain ⟨ia, irs1, h1, h2, rfl⟩ := mapO_cons h
    obtain ⟨ib, irs2, h3, h4, rfl⟩ := mapO_cons h2
    have pa := ih.t G P k C X Γ a ia h1 g fun i hi => hs i (by rw [svL]; exact List.mem_append_left _ hi)
    have pb := pw_orL ih g (pos := pos) (es := b :: es) h2 (by simp) fun i hi => hs i (by rw [svL]; exact List.mem_append_right _ hi)
    refine PW_imp (pw_or pa pb) fun σ H Q ⟨Z0, env, m, d, m', b, S, ev, et, q⟩ => ?_
    rw [if_pos rfl] at ev
    obtain ⟨x, m1, e1, e2⟩ := inv_or2 ev
    rcases e2 with ⟨ht, e2⟩ | ⟨ht, rfl, rfl⟩
    · refine ⟨Z0, env, m, x, m1, false, S, e1, ht, fun H1 x1 s1 => iteF ⟨Z0, env, m1, d, m', b, S.next x1 s1, ?_, et, fun H' x' s' => q H' (x1.trans x') s'⟩⟩
      rw [if_pos rfl]; exact e2
    · rw [ht] at et; cases et
      exact ⟨Z0, env, m, _, _, true, S, e1, ht, fun H1 x1 s1 => iteT (q H1 x1 s1)⟩

/-! list(range(..)) -/
/-! isinstance -/
def tyN : Ty → String
  | .list => "list" | .tuple => "tuple" | .str => "str" | .bool => "bool" | .int => "int"
def dTy : D → String
  | .non => "NoneType" | .bl _ => "bool" | .int _ => "int" | .str _ => "str" | .lst _ => "list" | .tup _ => "tuple" | .scr => "list" | .st => "list"
theorem kit_isT (t : Ty) (d : D) : PySem.W.kitOne K (.type (dTy d)) (.type (tyN t)) = some (isT t d) := by
  cases t <;> cases d <;> exact kit_ty (by simp only [dTy, tyN, isT]; decide +kernel)
theorem tyX_of (A : Amb G K Z H m) (r : RepO G Z H d v) : TyX K H v (.type (dTy d)) := by
  cases d with
  | non => rw [(r.rep (fun _ z => by cases z)).non_inv]; exact .base .non
  | bl b => rw [r.bl]; exact .base (.bl b)
  | int b => rw [r.int]; exact .base (.int b)
  | str b => have := r.rep (fun _ z => by cases z); cases this; exact .base (.str b)
  | lst xs => obtain ⟨a, vs, rfl, h, _⟩ := r.lst; exact .base (.lst h)
  | tup xs => obtain ⟨a, vs, rfl, h, _⟩ := r.tup; exact .base (.tup h)
  | scr =>
    have := r.rep (fun _ z => by cases z)
    cases this
    rcases A.scr with ⟨o, h⟩ | ⟨o, its, n, h1, h2, _⟩
    · exact .base (.frz h)
    · exact .kList h1 h2
  | st =>
    have := r.rep (fun _ z => by cases z)
    cases this
    obtain ⟨vs, h, _⟩ := A.st
    exact .base (.lst h)
theorem cTy_name {x : Str} {t : Ty} (h : cTy x = some t) : x = (tyN t : Str) := by
  unfold cTy at h
  split at h
  · rename_i e; cases h; exact e
  · split at h
    · rename_i e; cases h; exact e
    · split at h
      · rename_i e; cases h; exact e
      · split at h
        · rename_i e; cases h; exact e
        · split at h
          · rename_i e; cases h; exact e
          · cases h
theorem boot_ty (t : Ty) : bootBuiltins (tyN t : Str) = some (.type (tyN t)) := by cases t <;> decide +kernel
theorem ty_blt (t : Ty) : (tyN t : Str) ∈ bltNames := by cases t <;> decide +kernel
theorem pe_ty (g : Good G P k C X) {t : Ty} {x : Str} {p : Pos} (h : cTy x = some t) (hg : glB C.sc x = true) : PE X (.Name x p) (tC (.ty (tyN t))) := by
  have e := cTy_name h
  subst e
  refine pe_bltn (glB_gl g hg) (g.free _ (ty_blt t)) (boot_ty t) rfl ?_ ?_
  · cases t <;> decide +kernel
  · cases t <;> decide +kernel

/-! built-in functions by name -/
def biN : Bi → String
  | .len => "len" | .abs => "abs" | .int1 => "int" | .max2 => "max" | .min2 => "min" | .gcd => "gcd" | .sum => "sum" | .list => "list" | .tuple => "tuple" | .sorted => "sorted" | .any => "any" | .all => "all"
  | .lenset => "len" | .range => "range" | .enum => "enumerate" | .zip => "zip" | .rev => "reversed"
theorem cBi_spec {x : Str} {n : Nat} {b : Bi} (h : cBi x n = some b) : x = (biN b : Str) ∧ n ≠ 0 ∧ (b = .len ∨ b = .abs ∨ b = .int1 ∨ b = .max2 ∨ b = .min2 ∨ b = .sum ∨ b = .list ∨ b = .tuple ∨ b = .sorted ∨ b = .any ∨ b = .all) := by
  unfold cBi at h
  repeat' split at h
  all_goals first
    | (cases h; done)
    | (rename_i e e2; cases h; refine ⟨e, by omega, ?_⟩; simp)
theorem bi_call {b : Bi} {id : String} {x : Str} {p pos : Pos} {e : Expr} {es : List Expr} {irs : List E} {n : Nat} (ih : IH n) (g : Good G P k C X) (hc : CallR X (.builtin id) (rDs G X.K (biD P b))) (hg : Gl X x) (hm : X.mg x = none) (hb : bootBuiltins x = some (.builtin id))
    (hn : x ≠ "__name__") (hd : (x == ("__debug__" : Str)) = false) (h : mapO (cE n C) (e :: es) = some irs) (hs : ∀ i, i ∈ svL false irs → i ∉ Γ) : PE X (.Call (.Name x p) (e :: es) [] pos) (tD G X.K P Γ st (.bi b irs)) := by
  have hst := cEs_star h
  rw [List.all_cons, Bool.and_eq_true] at hst
  refine PE_imp (pe_callB hc hg hm hb (pas (st := false) ih g h hs) hn hd (star1 hst.1) (stars_any hst.2)) fun σ H Q ⟨Z0, env, m, d, m', S, ev, q⟩ => ?_
  obtain ⟨xs, e1, e2⟩ := inv_bi ev
  exact ⟨Z0, env, m, xs, m', S, e1, fun vs H1 x1 s1 r1 => ⟨_, m', xs, d, (S.next x1 s1).amb, r1.o, e2, new_post (S.next x1 s1).amb x1 q⟩⟩
theorem bi_callT {b : Bi} {id : String} {x : Str} {p pos : Pos} {e : Expr} {es : List Expr} {irs : List E} {n : Nat} (ih : IH n) (g : Good G P k C X) (hc : CallR X (.type id) (rDs G X.K (biD P b))) (hg : Gl X x) (hm : X.mg x = none) (hb : bootBuiltins x = some (.type id))
    (hn : x ≠ "__name__") (hd : (x == ("__debug__" : Str)) = false) (h : mapO (cE n C) (e :: es) = some irs) (hs : ∀ i, i ∈ svL false irs → i ∉ Γ) : PE X (.Call (.Name x p) (e :: es) [] pos) (tD G X.K P Γ st (.bi b irs)) := by
  have hst := cEs_star h
  rw [List.all_cons, Bool.and_eq_true] at hst
  refine PE_imp (pe_callTy hc hg hm hb (pas (st := false) ih g h hs) hn hd (star1 hst.1) (stars_any hst.2)) fun σ H Q ⟨Z0, env, m, d, m', S, ev, q⟩ => ?_
  obtain ⟨xs, e1, e2⟩ := inv_bi ev
  exact ⟨Z0, env, m, xs, m', S, e1, fun vs H1 x1 s1 r1 => ⟨_, m', xs, d, (S.next x1 s1).amb, r1.o, e2, new_post (S.next x1 s1).amb x1 q⟩⟩
theorem pe_cCall {f : Str} {p pos : Pos} {args : List Expr} {ir : E} {n : Nat} (ih : IH n) (g : Good G P k C X) (h : cCall (cE n C) C f args = some ir) (hs : ∀ i, i ∈ sv false ir → i ∉ Γ) : PE X (.Call (.Name f p) args [] pos) (tD G X.K P Γ st ir) := by
  unfold cCall at h
  split at h
  case isFalse => cases h
  case isTrue hgl =>
  rw [Bool.and_eq_true] at hgl
  have hg := glB_gl g hgl.1
  have hdb : (f == ("__debug__" : Str)) = false := by simpa using hgl.2
  split at h
  · rename_i i ar hf
    split at h
    · rename_i hc
      simp only [Bool.and_eq_true, decide_eq_true_eq, bne_iff_ne, ne_eq] at hc
      split at h
      · rename_i es hm
        cases h
        have hst := cEs_star hm
        obtain ⟨a, fd, ps, hmg, hk, hb, F⟩ := g.call i f ar (fndF_get hf)
        match args, hc, hst, hm with
        | [], hc, _, _ => exact absurd hc.1.symm hc.2
        | e :: es', hc, hst, hm =>
          rw [List.all_cons, Bool.and_eq_true] at hst
          have pa := pas (st := true) ih g hm (by intro i hi; exact hs i (by rw [sv]; exact hi))
          · refine PE_imp (pe_call F g.room hg hmg hk hb .nil pass0 pa hdb (star1 hst.1) (stars_any hst.2)) fun σ H Q ⟨Z0, env, m, d, m', S, ev, q⟩ => ?_
            obtain ⟨xs, m1, e1, e2⟩ := inv_call ev
            refine ⟨Z0, env, m, xs, m1, S, e1, fun vs H1 x1 s1 r1 => ?_⟩
            show spI G X.K P i ar (vs ++ []) H1 Q E0
            rw [List.append_nil]
            have l1 := RepsO.length r1.o
            have l2 : xs.length = (e :: es').length := by
              have : ∀ {es : List E} {xs : List D} {m m' : List D}, evEs P es env m = some (xs, m') → xs.length = es.length := by
                intro es
                induction es with
                | nil => intro xs m m' h; simp only [evEs, Option.some.injEq, Prod.mk.injEq] at h; rw [← h.1]; rfl
                | cons a as ih2 =>
                  intro xs m m' h
                  obtain ⟨x, m1, ys, h1, h2, rfl⟩ := inv_cons h
                  simp [ih2 h2]
              rw [this e1, mapO_len hm]
            refine ⟨Zs Γ σ Z0, xs, m1, d, m', by rw [← l1, l2]; exact hc.1, (S.next x1 s1).amb, r1.r, e2, fun v H' x' s' r' => q v H' (x1.trans x') s' (.of r')⟩
      · cases h
    · cases h
  · split at h
    · rename_i hf hgc
      subst hgc
      split at h
      · rename_i hc
        simp only [Bool.and_eq_true, decide_eq_true_eq] at hc
        split at h
        · rename_i es hm
          cases h
          match args, hc.2, hm with
          | [a, b], _, hm =>
            have hst := cEs_star hm
            rw [List.all_cons, Bool.and_eq_true] at hst
            refine PE_imp (pe_callBfun (biR_gcd (G := G) (P := P)) hg (g.gcd hc.1) (pas (st := false) ih g hm (by intro i hi; exact hs i (by rw [sv]; exact hi))) (by decide) (star1 hst.1) (stars_any hst.2)) fun σ H Q ⟨Z0, env, m, d, m', S, ev, q⟩ => ?_
            obtain ⟨xs, e1, e2⟩ := inv_bi ev
            exact ⟨Z0, env, m, xs, m', S, e1, fun vs H1 x1 s1 r1 => ⟨_, m', xs, d, (S.next x1 s1).amb, r1.o, e2, new_post (S.next x1 s1).amb x1 q⟩⟩
        · cases h
      · cases h
    · split at h
      · rename_i b hb
        split at h
        · rename_i es hm
          cases h
          obtain ⟨hx, hn0, hor⟩ := cBi_spec hb
          subst hx
          have hs' : ∀ i, i ∈ svL false es → i ∉ Γ := fun i hi => hs i (by rw [sv]; exact hi)
          match args, hn0, hm with
          | [], hn0, _ => exact absurd rfl hn0
          | a :: as, _, hm =>
            rcases hor with rfl | rfl | rfl | rfl | rfl | rfl | rfl | rfl | rfl | rfl | rfl
            · exact bi_call ih g (biR_len g.ns) hg (g.free _ (by decide +kernel)) boot_len (by decide +kernel) (by decide +kernel) hm hs'
            · exact bi_call ih g biR_abs hg (g.free _ (by decide +kernel)) (by decide +kernel) (by decide +kernel) (by decide +kernel) hm hs'
            · exact bi_callT ih g biR_int hg (g.free _ (by decide +kernel)) (by decide +kernel) (by decide +kernel) (by decide +kernel) hm hs'
            · exact bi_call ih g (biR_max2 g.calm) hg (g.free _ (by decide +kernel)) (by decide +kernel) (by decide +kernel) (by decide +kernel) hm hs'
            · exact bi_call ih g (biR_min2 g.calm) hg (g.free _ (by decide +kernel)) (by decide +kernel) (by decide +kernel) (by decide +kernel) hm hs'
            · exact bi_call ih g (biR_sum g.calm) hg (g.free _ (by decide +kernel)) (by decide +kernel) (by decide +kernel) (by decide +kernel) hm hs'
            · exact bi_callT ih g (biR_list g.ns) hg (g.free _ (by decide +kernel)) (by decide +kernel) (by decide +kernel) (by decide +kernel) hm hs'
            · exact bi_callT ih g (biR_tuple g.ns) hg (g.free _ (by decide +kernel)) (by decide +kernel) (by decide +kernel) (by decide +kernel) hm hs'
            · exact bi_call ih g biR_sorted hg (g.free _ (by decide +kernel)) (by decide +kernel) (by decide +kernel) (by decide +kernel) hm hs'
            · exact bi_call ih g (biR_any g.calm) hg (g.free _ (by decide +kernel)) (by decide +kernel) (by decide +kernel) (by decide +kernel) hm hs'
            · exact bi_call ih g (biR_all g.calm) hg (g.free _ (by decide +kernel)) (by decide +kernel) (by decide +kernel) (by decide +kernel) hm hs'
        · cases h
      · cases h
end
end Zz
/-! ZSnd6: isinstance, list(range(..)), len(set(..)); every expression. -/
namespace Zz
open PySem PySem.Spec PyProof.Rows L2
section
variable {G : Gh} {P : Pr} {k : Nat} {C : CC} {X : Cx} {K : PySem.W.Frag} {Γ Γ' : List Nat} {Z Z0 : Addr → Prop} {σ σ' : L2.St} {H H' H1 : Hp} {env env' : Env} {m m' m1 mi : List D} {st : Bool} {d : D} {v : V}

theorem kit_any (d : D) : ∀ ts : List Ty, PySem.W.kitAny K (.type (dTy d)) (ts.map fun t => .type (tyN t)) = some (ts.any fun t => isT t d)
  | [] => rfl
  | t :: ts => by
    rw [List.map_cons]
    unfold PySem.W.kitAny
    rw [kit_isT]
    cases h : isT t d with
    | true => simp [h]
    | false => simp only [List.any_cons, h, Bool.false_or]; exact kit_any d ts
theorem pa_tys (g : Good G P k C X) : ∀ {es : List Expr} {ts : List Ty}, mapO (fun e => match e with | .Name t _ => (if glB C.sc t then cTy t else none) | _ => none) es = some ts →
    PA X es (fun σ H Q => Q (ts.map fun t => V.ty (tyN t)) H) ∧ es.all noStar = true ∧ es.length = ts.length
  | [], ts, h => by
    simp only [mapO, Option.some.injEq] at h; subst h
    exact ⟨PA_imp pa_nil fun σ H Q q => q, rfl, rfl⟩
  | e :: es, ts, h => by
    obtain ⟨t, ts, h1, h2, rfl⟩ := mapO_cons h
    obtain ⟨p1, p2, p3⟩ := pa_tys g h2
    cases e with
    | Name x pos =>
      simp only at h1
      split at h1
      · rename_i hg
        exact ⟨PA_imp (pa_cons (pe_ty g h1 hg) p1 (star1 rfl)) fun σ H Q q => q, by simpa [noStar] using p2, by simp [p3]⟩
      · cases h1
    | _ => cases h1
theorem boot_isi : bootBuiltins ("isinstance" : Str) = some (.builtin "isinstance") := by decide +kernel
theorem pe_isi {f : Str} {p pos : Pos} {args : List Expr} {a : Expr} {ts : List Ty} {ia : E} {n : Nat} (ih : IH n) (g : Good G P k C X) (h : isiOf C.sc f args = some (a, ts)) (hg : glB C.sc f = true) (h1 : cE n C a = some ia) (hs : ∀ i, i ∈ sv false ia → i ∉ Γ) :
    PE X (.Call (.Name f p) args [] pos) (tD G X.K P Γ st (.isi ts ia)) := by
  unfold isiOf at h
  split at h
  case isFalse => cases h
  case isTrue ef =>
  subst ef
  have hgl := glB_gl g hg
  have hm := g.free "isinstance" (by decide +kernel)
  split at h
  · rename_i a' t pt
    split at h
    · rename_i hgt
      split at h
      · rename_i ty hty
        simp only [Option.some.injEq, Prod.mk.injEq] at h
        obtain ⟨rfl, rfl⟩ := h
        have pe := ih.e G P k C X Γ a' ia false h1 g hs
        refine PE_imp (pe_callB call_isi hgl hm boot_isi (pa_cons pe (pa_cons (pe_ty g hty hgt) pa_nil (star1 rfl)) (star1 (cE_star h1))) (by decide +kernel) (by decide +kernel) (star1 (cE_star h1)) (stars_any rfl)) fun σ H Q ⟨Z0, env, m, d, m', S, ev, q⟩ => ?_
        obtain ⟨x, e1, rfl⟩ := inv_isi ev
        refine ⟨Z0, env, m, x, m', S, e1, fun v H1 x1 s1 r1 => ?_⟩
        have A := (S.next x1 s1).amb
        refine ⟨v, .ty (tyN ty), .type (dTy x), .type (tyN ty), isT ty x, rfl, .ty _, tyX_of A (RepB.o r1), kit_isT ty x, q _ _ x1 s1 (.of ?_)⟩
        simp only [List.any_cons, List.any_nil, Bool.or_false]
        exact .bl _
      · cases h
    · cases h
  · rename_i a' tes kk tp
    split at h
    · rename_i tys htys
      split at h
      case isFalse => cases h
      case isTrue hlen8 =>
      simp only [Option.some.injEq, Prod.mk.injEq] at h
      obtain ⟨rfl, rfl⟩ := h
      have pe := ih.e G P k C X Γ a' ia false h1 g hs
      obtain ⟨p1, p2, p3⟩ := pa_tys g htys
      have hlen : tys.length ≤ sizeLine := by rw [sizeLine_is]; omega
      refine PE_imp (pe_callB call_isiT hgl hm boot_isi (pa_cons pe (pa_cons (pe_tup p1) pa_nil (star1 rfl)) (star1 (cE_star h1))) (by decide +kernel) (by decide +kernel) (star1 (cE_star h1)) (stars_any rfl)) fun σ H Q ⟨Z0, env, m, d, m', S, ev, q⟩ => ?_
      obtain ⟨x, e1, rfl⟩ := inv_isi ev
      refine ⟨Z0, env, m, x, m', S, e1, fun v H1 x1 s1 r1 => ⟨by rw [List.length_map]; exact hlen, fun tp htp => ?_⟩⟩
      have S1 := S.next x1 s1
      have sm : Same H1 (upd H1 tp (.tup (tys.map fun t => V.ty (tyN t)))) := Same.upd htp
      have A := S1.amb.same sm
      refine ⟨v, tp, tys.map (fun t => V.ty (tyN t)), .type (dTy x), tys.map (fun t => .type (tyN t)), tys.any (fun t => isT t x), rfl, upd_same, ?_, tyX_of A (S1.amb.repO (Ext.of sm) (RepB.o r1)), kit_any x tys, q _ _ (x1.trans (Ext.of sm)) A.st (.of (.bl _))⟩
      generalize tys = l
      induction l with
      | nil => exact .nil
      | cons t l ihl => exact .cons (.ty _) ihl
    · cases h
  · cases h

/-! list(range(..)) -/
theorem range_reps (lo : Int) : ∀ n : Nat, Reps G Z H (rangeD lo n) ((List.range n).map fun i => V.int (lo + (i : Nat))) := by
  intro n
  have : rangeD lo n = (List.range n).map fun i => D.int (lo + (i : Nat)) := by
    apply List.ext_getElem?
    intro i
    by_cases hi : i < n
    · rw [rangeD_get lo n i hi, List.getElem?_map, List.getElem?_range hi]; rfl
    · rw [List.getElem?_eq_none (by rw [rangeD_len]; omega), List.getElem?_eq_none (by simp; omega)]
  rw [this]
  generalize List.range n = l
  induction l with
  | nil => exact .nil
  | cons x l ihl => exact .cons (.int _) ihl
theorem rgV_reps (a b : Int) : Reps G Z H (rangeD a (b - a).toNat) (rgV a b) := range_reps a _
theorem lenOk_24 {n : Nat} (h : lenOk n = true) : n ≤ 2 ^ 24 := by simpa [lenOk] using h
theorem pe_lstRng {f : Str} {p pos : Pos} {args as : List Expr} {irs : List E} {n : Nat} (ih : IH n) (g : Good G P k C X) (h : lstRng f args = some as) (hg : glB C.sc f = true) (hg2 : glB C.sc "range" = true) (hl : as.length = 1 ∨ as.length = 2) (hm : mapO (cE n C) as = some irs) (hs : ∀ i, i ∈ svL false irs → i ∉ Γ) :
    PE X (.Call (.Name f p) args [] pos) (tDF G X.K P Γ (.bi .range irs)) := by
  unfold lstRng at h
  split at h
  case isFalse => cases h
  case isTrue ef =>
  subst ef
  split at h
  case h_2 => cases h
  rename_i gn pg as' pos'
  split at h
  case isFalse => cases h
  case isTrue eg =>
  cases h
  subst eg
  have fin : ∀ {Z0 : Addr → Prop} {env : Env} {m m' : List D} {σ : L2.St} {H H1 : Hp} {a b : Int} {Q : VK}, SR G X.K Γ Z0 σ H env m → Ext G H H1 → StR G (Zs Γ σ Z0) H1 m' → ok62 a = true → ok62 b = true → lenOk (b - a).toNat = true →
      (∀ v H', Ext G H H' → StR G (Zs Γ σ Z0) H' m' → Rep G (Zs Γ σ Z0) H' (.lst (rangeD a (b - a).toNat)) v → FrL G (Zs Γ σ Z0) H H' m' (.lst (rangeD a (b - a).toNat)) v → Q v H') →
      RgOk a b ∧ ∀ (q : Addr), H1 q = none → Q (.ref q) (upd H1 q (.lst (rgV a b))) := by
    intro Z0 env m m' σ H H1 a b Q S x1 s1 h1 h2 h3 q
    have ha := ok62_iff.mp h1
    have hb := ok62_iff.mp h2
    refine ⟨⟨ha.1, ha.2, hb.1, hb.2, lenOk_24 h3⟩, fun r hr => ?_⟩
    have S1 := S.next x1 s1
    have sm : Same H1 (upd H1 r (.lst (rgV a b))) := Same.upd hr
    have hsa : r ≠ G.sa := fun e => by
      obtain ⟨vs, z, _⟩ := s1
      rw [← e, hr] at z; cases z
    have hH : H r = none := by
      cases e : H r with
      | none => rfl
      | some o => rw [x1 r o hsa e] at hr; cases hr
    exact q _ _ (x1.trans (Ext.of sm)) (S1.amb.same sm).st (S1.amb.newL hr (rgV_reps a b)) ⟨r, rgV a b, _, rfl, rfl, hH, upd_same, rgV_reps a b, StR.new S1.amb hr⟩
  rcases hl with hl | hl
  · obtain ⟨a, ia, rfl, rfl, h1⟩ := mapO_one hm hl
    have pe := ih.e G P k C X Γ a ia false h1 g fun i hi => hs i (by rw [svL]; exact List.mem_append_left _ hi)
    refine PE_imp (pe_listRg g.calm (glB_gl g hg) (g.free "list" (by decide)) (prg_1 (glB_gl g hg2) (g.free "range" (by decide)) pe (star1 (cE_star h1))) (star1 rfl)) fun σ H Q ⟨Z0, env, m, d, m', S, ev, q⟩ => ?_
    obtain ⟨ds, e1, e2⟩ := inv_bi ev
    obtain ⟨x, e3, rfl⟩ := inv_one e1
    rcases bi_range e2 with ⟨j, ej, hj, rfl⟩ | ⟨i, j, ej, _⟩ | ⟨i, j, c, ej, _⟩
    · cases ej
      have hlen : lenOk j.toNat = true := by
        simp only [biD] at e2
        split at e2
        · rename_i h; rw [Bool.and_eq_true] at h; exact h.2
        · cases e2
      refine ⟨Z0, env, m, .int j, m', S, e3, fun v H1 x1 s1 r1 => ⟨j, by rw [(RepB.o r1).int], ?_⟩⟩
      have e0 : (j - 0).toNat = j.toNat := by rw [Int.sub_zero]
      exact fin S x1 s1 (by decide) hj (by rw [e0]; exact hlen) (by rw [e0]; exact q)
    · cases ej
    · cases ej
  · obtain ⟨a, b, ia, ib, rfl, rfl, h1, h2⟩ := mapO_two hm hl
    have pea := ih.e G P k C X Γ a ia false h1 g fun i hi => hs i (by rw [svL]; exact List.mem_append_left _ hi)
    have peb := ih.e G P k C X Γ b ib false h2 g fun i hi => hs i (by rw [svL]; exact List.mem_append_right _ (by rw [svL]; exact List.mem_append_left _ hi))
    refine PE_imp (pe_listRg g.calm (glB_gl g hg) (g.free "list" (by decide)) (prg_2 (glB_gl g hg2) (g.free "range" (by decide)) pea peb (star1 (cE_star h1)) (star1 (cE_star h2)) (stars_any (by simp [cE_star h2]))) (star1 rfl)) fun σ H Q ⟨Z0, env, m, d, m', S, ev, q⟩ => ?_
    obtain ⟨ds, e1, e2⟩ := inv_bi ev
    obtain ⟨x, m1, ys, e3, e4, rfl⟩ := inv_cons e1
    obtain ⟨y, e5, rfl⟩ := inv_one e4
    rcases bi_range e2 with ⟨j, ej, _⟩ | ⟨i, j, ej, hi, hj, rfl⟩ | ⟨i, j, c, ej, _⟩
    · cases ej
    · cases ej
      have hlen : lenOk (j - i).toNat = true := by
        simp only [biD] at e2
        split at e2
        · rename_i h; rw [Bool.and_eq_true] at h; exact h.2
        · cases e2
      exact tD_two S e3 e5 fun u w H2 x2 s2 r1 r2 => ⟨i, j, (RepB.o r1).int, (RepB.o r2).int, fin S x2 s2 hi hj hlen q⟩
    · cases ej
/-! len(set(e)) -/
theorem pe_lenset {f : Str} {p pos : Pos} {args : List Expr} {a : Expr} {ia : E} {n : Nat} (ih : IH n) (g : Good G P k C X) (h : lenSet f args = some a) (hg : glB C.sc f = true) (hg2 : glB C.sc "set" = true) (h1 : cE n C a = some ia) (hs : ∀ i, i ∈ sv false ia → i ∉ Γ) :
    PE X (.Call (.Name f p) args [] pos) (tD G X.K P Γ st (.bi .lenset [ia])) := by
  unfold lenSet at h
  split at h
  case isFalse => cases h
  case isTrue ef =>
  subst ef
  split at h
  case h_2 => cases h
  rename_i gn pg a' pos'
  split at h
  case isFalse => cases h
  case isTrue eg =>
  cases h
  subst eg
  refine PE_imp (pe_lenS (glB_gl g hg) (g.free "len" (by decide)) (glB_gl g hg2) (g.free "set" (by decide)) (ih.e G P k C X Γ a ia false h1 g hs) g.calm (star1 (cE_star h1))) fun σ H Q ⟨Z0, env, m, d, m', S, ev, q⟩ => ?_
  obtain ⟨ds, e1, e2⟩ := inv_bi ev
  obtain ⟨x, e3, rfl⟩ := inv_one e1
  obtain ⟨xs, exs⟩ := one_list (.inr (.inr (.inr (.inr rfl)))) e2
  cases exs
  refine ⟨Z0, env, m, _, m', S, e3, fun v H1 x1 s1 r1 => ?_⟩
  obtain ⟨l, vs, rfl, h2, t⟩ := (RepB.o r1).lst
  simp only [biD] at e2
  split at e2
  · rename_i is hi
    split at e2
    · rename_i hlen
      cases e2
      obtain ⟨rfl, _⟩ := t.ints_inv hi
      exact ⟨l, is, rfl, SqL.of h2, by simpa using hlen, q _ _ x1 s1 (.of (.int _))⟩
    · cases e2
  · cases e2
end
end Zz
/-! ZSnd7: every expression. -/
namespace Zz
open PySem PySem.Spec PyProof.Rows L2
section
variable {G : Gh} {P : Pr} {k : Nat} {C : CC} {X : Cx} {K : PySem.W.Frag} {Γ Γ' : List Nat} {Z Z0 : Addr → Prop} {σ σ' : L2.St} {H H' H1 : Hp} {env env' : Env} {m m' m1 mi : List D} {st : Bool} {d : D} {v : V}

theorem tD_ofF {ir : E} {e : Expr} (h : PE X e (tDF G X.K P Γ ir)) : PE X e (tD G X.K P Γ st ir) := PE_imp h fun σ H Q q => tDF_D q
theorem pe_name (g : Good G P k C X) {n : Nat} {x : Str} {pos : Pos} {ir : E} (h : cE (n + 1) C (.Name x pos) = some ir) (hs : ∀ i, i ∈ svS st ir → i ∉ Γ) : PE X (.Name x pos) (tD G X.K P Γ st ir) := by
  simp only [cE] at h
  split at h
  · rename_i hc
    simp only [Bool.and_eq_true, Bool.not_eq_true'] at hc
    split at h
    · rename_i i hi
      cases h
      refine PE_imp (pe_var (i := i) (by rw [g.N]; exact fnd_get hi) (by rw [g.sc]; exact visB_vis hc.1.1) hc.1.2 hc.2) fun σ H Q ⟨Z0, env, m, d, m', S, ev, q⟩ => ?_
      simp only [evE] at ev
      split at ev
      · rename_i d' hd
        cases ev
        obtain ⟨v, h1, h2⟩ := S.get (st := st) hd fun e => hs i (by subst e; simp [svS, stv])
        exact ⟨v, h1, q v H (Ext.refl _) S.amb.st h2⟩
      · cases ev
    · cases h
  · cases h
/-- what cE says of a call -/
theorem pe_callX {n : Nat} (ih : IH n) (g : Good G P k C X) {f : Str} {pf pos : Pos} {args : List Expr} {ir : E} (h : cE (n + 1) C (.Call (.Name f pf) args [] pos) = some ir) (hs : ∀ i, i ∈ sv false ir → i ∉ Γ) :
    PE X (.Call (.Name f pf) args [] pos) (tD G X.K P Γ st ir) := by
  simp only [cE] at h
  split at h
  · rename_i a hls
    split at h
    · rename_i hc
      simp only [Bool.and_eq_true] at hc
      split at h
      · rename_i x hx
        cases h
        exact pe_lenset ih g hls hc.1.1.1 hc.1.1.2 hx fun i hi => hs i (by rw [sv, svL]; exact List.mem_append_left _ hi)
      · cases h
    · cases h
  · split at h
    · rename_i as hls
      split at h
      · rename_i hc
        simp only [Bool.and_eq_true, Bool.or_eq_true, decide_eq_true_eq] at hc
        split at h
        · rename_i xs hx
          cases h
          exact tD_ofF (pe_lstRng ih g hls hc.1.1.1.1 hc.1.1.1.2 hc.2 hx fun i hi => hs i (by rw [sv]; exact hi))
        · cases h
      · cases h
    · split at h
      · rename_i a ts hls
        split at h
        · rename_i hc
          simp only [Bool.and_eq_true] at hc
          split at h
          · rename_i x hx
            cases h
            exact pe_isi ih g hls hc.1 hx fun i hi => hs i (by rw [sv]; exact hi)
          · cases h
        · cases h
      · exact pe_cCall ih g h hs
theorem pe_sub {n : Nat} (ih : IH n) (g : Good G P k C X) {a s : Expr} {pos : Pos} {ir : E} (h : cE (n + 1) C (.Subscript a s pos) = some ir) (hs : ∀ i, i ∈ sv false ir → i ∉ Γ) : PE X (.Subscript a s pos) (tD G X.K P Γ st ir) := by
  have plain : ∀ {x i : E}, cE n C a = some x → cE n C s = some i → ir = .ix x i → PE X (.Subscript a s pos) (tD G X.K P Γ st ir) := by
    rintro x i h1 h2 rfl
    have pa := ih.e G P k C X Γ a x false h1 g fun j hj => hs j (by rw [sv]; exact List.mem_append_left _ hj)
    have pi := ih.e G P k C X Γ s i false h2 g fun j hj => hs j (by rw [sv]; exact List.mem_append_right _ hj)
    refine PE_imp (pe_ix (ixR g.ns) pa pi (cE_plain h2)) fun σ H Q ⟨Z0, env, m, d, m', S, ev, q⟩ => ?_
    obtain ⟨x', m1, y, e1, e2, e3⟩ := inv_ix ev
    exact tD_two S e1 e2 fun u w H2 x2 s2 r1 r2 => ⟨_, m', x', y, d, (S.next x2 s2).amb, RepB.o r1, RepB.o r2, e3, fun v r => q v H2 x2 s2 (.of r)⟩
  simp only [cE] at h
  split at h
  · rename_i lo hi p2
    split at h
    · rename_i x l hh h1 h2 h3
      cases h
      have pa := ih.e G P k C X Γ a x false h1 g fun j hj => hs j (by rw [sv]; exact List.mem_append_left _ hj)
      have pl : ∀ {o : Option Expr} {ls : List E}, mapO (cE n C) o.toList = some ls → (∀ j, j ∈ svL false ls → j ∉ Γ) →
          ∃ t : TO, PO X o t ∧ ∀ Z0 env m m' σ H ds oi (R : Option Int → Hp → Prop), SR G X.K Γ Z0 σ H env m → evEs P ls env m = some (ds, m') → partD ds = some oi → (∀ H', Ext G H H' → StR G (Zs Γ σ Z0) H' m' → R oi H') → t σ H R := by
        intro o ls ho hj
        cases o with
        | none =>
          simp only [Option.toList, mapO, Option.some.injEq] at ho; subst ho
          refine ⟨_, po_none, fun Z0 env m m' σ H ds oi R S ev hp q => ?_⟩
          simp only [evEs, Option.some.injEq, Prod.mk.injEq] at ev
          obtain ⟨rfl, rfl⟩ := ev
          simp only [partD, Option.some.injEq] at hp; subst hp
          exact q H (Ext.refl _) S.amb.st
        | some e =>
          obtain ⟨e', ie, ee, rfl, h4⟩ := mapO_one (args := [e]) ho rfl
          cases ee
          refine ⟨_, po_some (ih.e G P k C X Γ e ie false h4 g fun j hi => hj j (by rw [svL]; exact List.mem_append_left _ hi)), fun Z0 env m m' σ H ds oi R S ev hp q => ?_⟩
          obtain ⟨x, e1, rfl⟩ := inv_one ev
          have : ∃ i, x = .int i ∧ oi = some i := by
            cases x <;> simp [partD] at hp
            exact ⟨_, rfl, hp.symm⟩
          obtain ⟨i, rfl, rfl⟩ := this
          exact ⟨Z0, env, m, .int i, m', S, e1, fun v H1 x1 s1 r1 => ⟨i, (RepB.o r1).int, q H1 x1 s1⟩⟩
      obtain ⟨tl, p1, q1⟩ := pl h2 fun j hj => hs j (by rw [sv]; exact List.mem_append_right _ (List.mem_append_left _ hj))
      obtain ⟨th, p2, q2⟩ := pl h3 fun j hj => hs j (by rw [sv]; exact List.mem_append_right _ (List.mem_append_right _ hj))
      refine PE_imp (pe_slice (slR (G := G)) pa p1 p2) fun σ H Q ⟨Z0, env, m, d, m', S, ev, q⟩ => ?_
      obtain ⟨x', m1, y, m2, w, e1, e2, e3, e4⟩ := inv_sl ev
      have hpl : ∃ ol oh, partD y = some ol ∧ partD w = some oh ∧ slO x' ol oh = some d := by
        cases x' <;> simp only [slD] at e4 <;> first | (cases e4; done) | skip
        all_goals
          split at e4
          · rename_i ol oh h4 h5
            exact ⟨ol, oh, h4, h5, e4⟩
          · cases e4
      obtain ⟨ol, oh, h4, h5, h6⟩ := hpl
      refine ⟨Z0, env, m, x', m1, S, e1, fun v H1 x1 s1 r1 => q1 Z0 env m1 m2 σ H1 y ol _ (S.next x1 s1) e2 h4 fun H2 x2 s2 => q2 Z0 env m2 m' σ H2 w oh _ ((S.next x1 s1).next x2 s2) e3 h5 fun H3 x3 s3 => ?_⟩
      have S1 := S.next x1 s1
      have A := (S1.next x2 s2).next x3 s3
      exact ⟨_, m', x', d, A.amb, S1.amb.repO (x2.trans x3) (RepB.o r1), h6, new_post A.amb (x1.trans (x2.trans x3)) q⟩
    · cases h
  · cases h
  · split at h
    · rename_i x i h1 h2
      exact plain h1 h2 (by cases h; rfl)
    · cases h
theorem one_cop (op : CmpOp) : pyCop (cCop op) = op := by cases op <;> rfl
/-- comparisons -/
theorem pe_compare {n : Nat} (ih : IH n) (g : Good G P k C X) {a : Expr} {ops : List CmpOp} {bs : List Expr} {pos : Pos} {x : E} {ys : List E} (ha : cE n C a = some x) (hb : mapO (cE n C) bs = some ys) (hl : ops.length = ys.length) (hn : ops ≠ []) (hs : ∀ i, i ∈ sv false (.cmp x (ops.map cCop) ys) → i ∉ Γ) :
    PE X (.Compare a ops bs pos) (tD G X.K P Γ st (.cmp x (ops.map cCop) ys)) ∧ PT X (.Compare a ops bs pos) (tT G X.K P Γ (.cmp x (ops.map cCop) ys)) := by
  have pa := ih.e G P k C X Γ a x false ha g fun j hj => hs j (by rw [sv]; exact List.mem_append_left _ hj)
  have hs2 : ∀ i, i ∈ svL false ys → i ∉ Γ := fun j hj => hs j (by rw [sv]; exact List.mem_append_right _ hj)
  have hm := last_marks (ops := ops) hb
  have hlb := mapO_len hb
  match ops, bs, hl, hn, hlb, hm with
  | [op], [b], hl, hn, hlb, hm =>
    obtain ⟨b', ib, eb, rfl, h1⟩ := mapO_one hb rfl
    cases eb
    have pb := ih.e G P k C X Γ b ib false h1 g fun j hj => hs2 j (by rw [svL]; exact List.mem_append_left _ hj)
    have hop := cmpR (X := X) (G := G) g.hu (cCop op)
    rw [one_cop] at hop
    have key : ∀ {σ H} {R : V → Hp → Prop} {Z0 env m d m'}, SR G X.K Γ Z0 σ H env m → evE P (.cmp x [cCop op] [ib]) env m = some (d, m') → (∀ v H', Ext G H H' → StR G (Zs Γ σ Z0) H' m' → Rep G (Zs Γ σ Z0) H' d v → R v H') →
        tOp (rD2 G X.K (cmpV (cCop op))) (tD G X.K P Γ false x) (tD G X.K P Γ false ib) σ H R := by
      intro σ H R Z0 env m d m' S ev q
      obtain ⟨x', m1, c, e1, e2, rfl⟩ := inv_cmp ev
      obtain ⟨y, e3, e4⟩ := inv_ch1 e2
      exact tD_two S e1 e3 fun u w H2 x2 s2 r1 r2 => ⟨_, m', x', y, .bl c, (S.next x2 s2).amb, RepB.o r1, RepB.o r2, by simp [cmpV, e4], fun v H' nw => q v H' (x2.trans (Ext.of nw.same)) ((S.next x2 s2).amb.same nw.same).st nw.rep⟩
    refine ⟨PE_imp (pe_cmpR hop pa pb (cE_mark h1 op)) fun σ H Q ⟨Z0, env, m, d, m', S, ev, q⟩ => key S ev fun v H' a b c => q v H' a b (.of c), PT_imp (pt_cmpR hop pa pb (cE_mark h1 op)) fun σ H Q ⟨Z0, env, m, d, m', b, S, ev, et, q⟩ => key S ev fun v H' x' s' r' => ?_⟩
    obtain ⟨_, _, c, _, _, rfl⟩ := inv_cmp ev
    simp only [truD, Option.some.injEq] at et; subst et
    cases r'
    exact ⟨c, rfl, q H' x' s'⟩
  | op :: op' :: ops, b :: b' :: bs, hl, hn, hlb, hm =>
    refine ⟨⟨fun pins s σ H Q I ⟨Z0, env, m, d, m', S, ev, q⟩ => ?_⟩, ⟨fun pins s σ H Q I ⟨Z0, env, m, d, m', c, S, ev, et, q⟩ => ?_⟩⟩
    · obtain ⟨x', m1, c, e1, e2, rfl⟩ := inv_cmp ev
      refine Compare_chain (thn (pa.run pins s σ H _ I ⟨Z0, env, m, x', m1, S, e1, fun u H1 x1 s1 r1 => (⟨x1, s1, r1⟩ : Ext G H H1 ∧ StR G (Zs Γ σ Z0) H1 m1 ∧ RepB G false (Zs Γ σ Z0) H1 x' u)⟩) fun u s1 ⟨uv, H1, I1, r1, x1, st1, rb⟩ => ?_) hm
      exact chain_v ih g (op :: op' :: ops) (b :: b' :: bs) ys s1 H1 m1 x' uv u c hb hl hn hs2 (S.next x1 st1) I1 rb r1 e2 fun H' x' s' => q _ H' (x1.trans x') s' (.of (.bl c))
    · obtain ⟨x', m1, c', e1, e2, rfl⟩ := inv_cmp ev
      simp only [truD, Option.some.injEq] at et; subst et
      refine isTrue_chain (thn (pa.run pins s σ H _ I ⟨Z0, env, m, x', m1, S, e1, fun u H1 x1 s1 r1 => (⟨x1, s1, r1⟩ : Ext G H H1 ∧ StR G (Zs Γ σ Z0) H1 m1 ∧ RepB G false (Zs Γ σ Z0) H1 x' u)⟩) fun u s1 ⟨uv, H1, I1, r1, x1, st1, rb⟩ => ?_) hm
      exact chain_t ih g (op :: op' :: ops) (b :: b' :: bs) ys s1 H1 m1 x' uv u c' hb hl hn hs2 (S.next x1 st1) I1 rb r1 e2 fun H' x' s' => q H' (x1.trans x') s'
  | [op], b :: b' :: bs, hl, _, hlb, _ => rw [← hl] at hlb; simp at hlb
  | [op], [], hl, _, hlb, _ => rw [← hl] at hlb; simp at hlb
  | op :: op' :: ops, [], hl, _, hlb, _ => rw [← hl] at hlb; simp at hlb
  | op :: op' :: ops, [b], hl, _, hlb, _ => rw [← hl] at hlb; simp at hlb
  | [], _, _, hn, _, _ => exact absurd rfl hn
/-- a value as a test -/
theorem pt_of (g : Good G P k C X) {e : Expr} {ir : E} (h : PE X e (tD G X.K P Γ false ir)) (he : ∀ whole, isTrue e X.env whole = (do let v ← whole; standAt e.pos; holding [v] (truthy v))) : PT X e (tT G X.K P Γ ir) :=
  PT_imp (pt_truth h he) fun σ H Q ⟨Z0, env, m, d, m', b, S, ev, et, q⟩ => ⟨Z0, env, m, d, m', S, ev, fun v H1 x1 s1 r1 => ⟨b, truV_of g.ns (S.next x1 s1).amb (RepB.o r1) et, q H1 x1 s1⟩⟩
theorem pe_disp {n : Nat} (ih : IH n) (g : Good G P k C X) {es : List Expr} {xs : List E} (h : mapO (cE n C) es = some xs) (hs : ∀ i, i ∈ svM xs → i ∉ Γ) :
    (∀ kk pos, PE X (.Tuple es kk pos) (tD G X.K P Γ st (.tup xs))) ∧ ∀ pos, PE X (.List es pos) (tDF G X.K P Γ (.lst xs)) := by
  have pa := pas (st := true) ih g h hs
  refine ⟨fun kk pos => PE_imp (pe_tup pa) fun σ H Q ⟨Z0, env, m, d, m', S, ev, q⟩ => ?_, fun pos => PE_imp (pe_lst pa) fun σ H Q ⟨Z0, env, m, d, m', S, ev, q⟩ => ?_⟩
  · obtain ⟨ds, e1, e2, rfl⟩ := inv_tup ev
    refine ⟨Z0, env, m, ds, m', S, e1, fun vs H1 x1 s1 r1 => ⟨by rw [← RepsO.length r1.o]; exact lenOk_iff.mp e2, fun p hp => ?_⟩⟩
    have A := (S.next x1 s1).amb
    exact q _ _ (x1.trans (Ext.of (Same.upd hp))) (A.same (Same.upd hp)).st (.of (A.newT hp r1.r))
  · obtain ⟨ds, e1, e2, rfl⟩ := inv_lst ev
    refine ⟨Z0, env, m, ds, m', S, e1, fun vs H1 x1 s1 r1 => ⟨by rw [← RepsO.length r1.o]; exact lenOk_iff.mp e2, fun p hp => ?_⟩⟩
    have A := (S.next x1 s1).amb
    have hsa : p ≠ G.sa := fun e => by
      obtain ⟨vs, z, _⟩ := s1
      rw [← e, hp] at z; cases z
    have hH : H p = none := by
      cases e : H p with
      | none => rfl
      | some o => rw [x1 p o hsa e] at hp; cases hp
    refine q _ _ (x1.trans (Ext.of (Same.upd hp))) (A.same (Same.upd hp)).st (A.newL hp r1.r) ⟨p, vs, ds, rfl, rfl, hH, upd_same, r1.r.mono (fun b o _ e => Same.upd hp b o e) (fun b o z e => ?_), StR.new A hp⟩
    rcases z with z | rfl
    · exact z
    · rw [hp] at e; cases e
/-- operations: what they make -/
theorem fr_of_new {H2 : Hp} {m2 : List D} (A : Amb G K Z H2 m2) (x : Ext G H H2) {ds : List D} (nw : New G Z H2 H' (.lst ds) v) : FrL G Z H H' m2 (.lst ds) v := by
  obtain ⟨p, vs, rfl, hp, rfl, r⟩ := nw.new ds rfl
  have hsa : p ≠ G.sa := fun e => by
    obtain ⟨vs, z, _⟩ := A.st
    rw [← e, hp] at z; cases z
  have hH : H p = none := by
    cases e : H p with
    | none => rfl
    | some o => rw [x p o hsa e] at hp; cases hp
  refine ⟨p, vs, ds, rfl, rfl, hH, upd_same, r.mono (fun b o _ e => Same.upd hp b o e) (fun b o z e => ?_), StR.new A hp⟩
  rcases z with z | rfl
  · exact z
  · rw [hp] at e; cases e
theorem cE_tv {n : Nat} {elt : Expr} {gn : Comprehension} {sc : Scope} {pos : Pos} {ir : E} (h : cE (n + 1) C (.ListComp elt [gn] sc pos) = some ir) :
    ∃ t it ifs x, gn.is_async = 0 ∧ gn.ifs.length ≤ 1 ∧ blkC C.N C.sc sc (ownN C.N sc.names) = true ∧ cT n { C with sc := scR sc C.sc, own := sc } gn.target = some t ∧ cI (cE n C) C (isTupE gn.target) gn.iter = some it ∧
      mapO (cE n { C with sc := scR sc C.sc, own := sc }) gn.ifs = some ifs ∧ cE n { C with sc := scR sc C.sc, own := sc } elt = some x ∧ (∀ j, j ∈ tv t → j ∈ (ownN C.N sc.names).map (·.2)) ∧ ir = .comp ((ownN C.N sc.names).map (·.2)) t it ifs x := by
  simp only [cE] at h
  split at h
  · rename_i hc
    simp only [Bool.and_eq_true, decide_eq_true_eq] at hc
    split at h
    · rename_i t it ifs x h1 h2 h3 h4
      split at h
      · rename_i h5
        cases h
        exact ⟨t, it, ifs, x, hc.1.1, hc.1.2, hc.2, h1, h2, h3, h4, fun j hj => by simpa using List.all_eq_true.mp h5 j hj, rfl⟩
      · cases h
    · cases h
  · cases h
theorem fold_cI {n : Nat} {tup : Bool} {e : Expr} {ir : E} (h : cI (cE n C) C tup e = some ir) (x : Value) : foldedSetIterable e X.env x = pure x := by
  cases e with
  | Set a b c => simp [cI] at h
  | _ => rfl
theorem pe_lcF {n : Nat} (ih : IH n) (g : Good G P k C X) {elt : Expr} {gs : List Comprehension} {sc : Scope} {pos : Pos} {ir : E} (h : cE (n + 1) C (.ListComp elt gs sc pos) = some ir) (hs : ∀ i, i ∈ sv false ir → i ∉ Γ) : PE X (.ListComp elt gs sc pos) (tDF G X.K P Γ ir) := by
  match gs, h with
  | [⟨tg, it, ifs, asy⟩], h =>
    obtain ⟨t, iit, iifs, x, h1, h2, h3, h4, h5, h6, h7, h8, rfl⟩ := cE_tv h
    simp only at h1 h2 h4 h5 h6
    subst h1
    exact pe_comp ih g h3 h2 h4 h5 h6 h7 h8 hs (fold_cI h5)
  | [], h => simp [cE] at h
  | _ :: _ :: _, h => simp [cE] at h

theorem ih_succ {n : Nat} (ih : IH n) : IH (n + 1) := by
  have main : ∀ (G : Gh) (P : Pr) (k : Nat) (C : CC) (X : Cx) (Γ : List Nat) (e : Expr) (ir : E), cE (n + 1) C e = some ir → Good G P k C X →
      (∀ st, (∀ i, i ∈ svS st ir → i ∉ Γ) → PE X e (tD G X.K P Γ st ir)) ∧ ((∀ i, i ∈ sv true ir → i ∉ Γ) → PT X e (tT G X.K P Γ ir)) := by
    intro G P k C X Γ e ir h g
    cases e with
    | Constant c kk pos =>
      have pe : ∀ st, PE X (.Constant c kk pos) (tD G X.K P Γ st ir) := fun st => by
        cases c with
        | none => simp only [cE, Option.some.injEq] at h; subst h; exact PE_imp pe_non fun σ H Q ⟨Z0, env, m, d, m', S, ev, q⟩ => (by simp only [evE, Option.some.injEq, Prod.mk.injEq] at ev; obtain ⟨rfl, rfl⟩ := ev; exact q _ H (Ext.refl _) S.amb.st (.of .non))
        | bool b => simp only [cE, Option.some.injEq] at h; subst h; exact PE_imp pe_bl fun σ H Q ⟨Z0, env, m, d, m', S, ev, q⟩ => (by simp only [evE, Option.some.injEq, Prod.mk.injEq] at ev; obtain ⟨rfl, rfl⟩ := ev; exact q _ H (Ext.refl _) S.amb.st (.of (.bl b)))
        | int b => simp only [cE, Option.some.injEq] at h; subst h; exact PE_imp pe_int fun σ H Q ⟨Z0, env, m, d, m', S, ev, q⟩ => (by simp only [evE, Option.some.injEq, Prod.mk.injEq] at ev; obtain ⟨rfl, rfl⟩ := ev; exact q _ H (Ext.refl _) S.amb.st (.of (.int b)))
        | str b => simp only [cE, Option.some.injEq] at h; subst h; exact PE_imp pe_str fun σ H Q ⟨Z0, env, m, d, m', S, ev, q⟩ => (by simp only [evE, Option.some.injEq, Prod.mk.injEq] at ev; obtain ⟨rfl, rfl⟩ := ev; exact q _ H (Ext.refl _) S.amb.st (.of (.str b)))
        | _ => simp [cE] at h
      exact ⟨fun st _ => pe st, fun _ => pt_of g (pe false) fun _ => rfl⟩
    | Name x pos =>
      refine ⟨fun st hs => pe_name g h hs, fun hs => pt_of g (pe_name g h fun i hi => ?_) fun _ => rfl⟩
      simp only [cE] at h
      split at h
      · split at h
        · cases h; simp [svS, sv] at hi
        · cases h
      · cases h
    | BinOp a op b pos =>
      simp only [cE] at h
      split at h
      · rename_i o x y h1 h2 h3
        cases h
        have pe : ∀ st, (∀ i, i ∈ sv false (.op o x y) → i ∉ Γ) → PE X (.BinOp a op b pos) (tD G X.K P Γ st (.op o x y)) := fun st hs => by
          have ho : pyOp o = op := by cases op <;> simp [cOp] at h1 <;> subst h1 <;> rfl
          have hop := opR (X := X) (G := G) o
          rw [ho] at hop
          refine PE_imp (pe_op hop (ih.e G P k C X Γ a x false h2 g fun j hj => hs j (by rw [sv]; exact List.mem_append_left _ hj)) (ih.e G P k C X Γ b y false h3 g fun j hj => hs j (by rw [sv]; exact List.mem_append_right _ hj))) fun σ H Q ⟨Z0, env, m, d, m', S, ev, q⟩ => ?_
          obtain ⟨x', m1, y', e1, e2, e3⟩ := inv_op ev
          exact tD_two S e1 e2 fun u w H2 x2 s2 r1 r2 => ⟨_, m', x', y', d, (S.next x2 s2).amb, RepB.o r1, RepB.o r2, e3, new_post (S.next x2 s2).amb x2 q⟩
        exact ⟨fun st hs => pe st (by rwa [svS_nv (by intro i q; cases q)] at hs), fun hs => pt_of g (pe false (by intro i hi; exact hs i (by rw [sv] at hi ⊢; exact hi))) fun _ => rfl⟩
      · cases h
    | UnaryOp op a pos =>
      simp only [cE] at h
      split at h
      · rename_i x h1
        cases h
        have pe : ∀ st, (∀ i, i ∈ sv false x → i ∉ Γ) → PE X (.UnaryOp .USub a pos) (tD G X.K P Γ st (.neg x)) := fun st hs => by
          refine PE_imp (pe_un un_neg (ih.e G P k C X Γ a x false h1 g hs)) fun σ H Q ⟨Z0, env, m, d, m', S, ev, q⟩ => ?_
          obtain ⟨i, e1, rfl⟩ := inv_neg ev
          exact ⟨Z0, env, m, .int i, m', S, e1, fun v H1 x1 s1 r1 => ⟨i, (RepB.o r1).int, q _ H1 x1 s1 (.of (.int _))⟩⟩
        exact ⟨fun st hs => pe st (by rw [svS_nv (by intro i q; cases q), sv] at hs; exact hs), fun hs => pt_of g (pe false (by intro i hi; exact hs i (by rw [sv]; exact hi))) fun _ => rfl⟩
      · rename_i x h1
        cases h
        refine ⟨fun st hs => ?_, fun hs => ?_⟩
        · refine PE_imp (pe_notT (ih.e G P k C X Γ a x false h1 g fun i hi => hs i (by rw [svS_nv (by intro i q; cases q), sv]; exact hi))) fun σ H Q ⟨Z0, env, m, d, m', S, ev, q⟩ => ?_
          obtain ⟨x', b, e1, e2, rfl⟩ := inv_not ev
          exact ⟨Z0, env, m, x', m', S, e1, fun v H1 x1 s1 r1 => ⟨b, truV_of g.ns (S.next x1 s1).amb (RepB.o r1) e2, q _ H1 x1 s1 (.of (.bl _))⟩⟩
        · refine PT_imp (pt_not (ih.t G P k C X Γ a x h1 g fun i hi => hs i (by rw [sv]; exact hi))) fun σ H Q ⟨Z0, env, m, d, m', b, S, ev, et, q⟩ => ?_
          obtain ⟨x', b', e1, e2, rfl⟩ := inv_not ev
          simp only [truD, Option.some.injEq] at et; subst et
          exact ⟨Z0, env, m, x', m', b', S, e1, e2, q⟩
      · cases h
    | BoolOp op es pos =>
      simp only [cE] at h
      split at h
      · rename_i xs hm
        split at h
        · cases h
        · rename_i hne
          have hne : xs ≠ [] := fun e => hne (by rw [e]; rfl)
          cases op with
          | And =>
            cases h
            refine ⟨fun st hs => ?_, fun hs => ?_⟩
            · refine PE_imp (pe_andL ih g (pos := pos) hm hne fun i hi => hs i (by rw [svS_nv (by intro i q; cases q), sv]; exact hi)) fun σ H Q ⟨Z0, env, m, d, m', S, ev, q⟩ => ?_
              rw [evE] at ev
              exact ⟨Z0, env, m, d, m', S, by rw [if_neg (by decide)]; exact ev, fun v H' a b c => q v H' a b (.of c)⟩
            · refine PT_imp (PW.pt (pw_andL ih g (pos := pos) hm hne fun i hi => hs i (by rw [sv]; exact hi))) fun σ H Q ⟨Z0, env, m, d, m', b, S, ev, et, q⟩ => ?_
              rw [evE] at ev
              exact ⟨Z0, env, m, d, m', b, S, by rw [if_neg (by decide)]; exact ev, et, q⟩
          | Or =>
            cases h
            refine ⟨fun st hs => ?_, fun hs => ?_⟩
            · refine PE_imp (pe_orL ih g (pos := pos) hm hne fun i hi => hs i (by rw [svS_nv (by intro i q; cases q), sv]; exact hi)) fun σ H Q ⟨Z0, env, m, d, m', S, ev, q⟩ => ?_
              rw [evE] at ev
              exact ⟨Z0, env, m, d, m', S, by rw [if_pos rfl]; exact ev, fun v H' a b c => q v H' a b (.of c)⟩
            · refine PT_imp (PW.pt (pw_orL ih g (pos := pos) hm hne fun i hi => hs i (by rw [sv]; exact hi))) fun σ H Q ⟨Z0, env, m, d, m', b, S, ev, et, q⟩ => ?_
              rw [evE] at ev
              exact ⟨Z0, env, m, d, m', b, S, by rw [if_pos rfl]; exact ev, et, q⟩
      · cases h
    | IfExp c a b pos =>
      simp only [cE] at h
      split at h
      · rename_i x y z h1 h2 h3
        cases h
        refine ⟨fun st hs => ?_, fun hs => ?_⟩
        · rw [svS_nv (by intro i q; cases q), sv] at hs
          have pc := ih.t G P k C X Γ c x h1 g fun i hi => hs i (List.mem_append_left _ hi)
          have pa := ih.e G P k C X Γ a y true h2 g fun i hi => hs i (List.mem_append_right _ (List.mem_append_left _ hi))
          have pb := ih.e G P k C X Γ b z true h3 g fun i hi => hs i (List.mem_append_right _ (List.mem_append_right _ hi))
          refine PE_imp (pe_ifExp pc pa pb) fun σ H Q ⟨Z0, env, m, d, m', S, ev, q⟩ => ?_
          obtain ⟨x', m1, e1, e2⟩ := inv_ite ev
          rcases e2 with ⟨ht, e2⟩ | ⟨ht, e2⟩
          · exact ⟨Z0, env, m, x', m1, true, S, e1, ht, fun H1 x1 s1 => iteT ⟨Z0, env, m1, d, m', S.next x1 s1, e2, fun v H' x' s' r' => q v H' (x1.trans x') s' (.of r')⟩⟩
          · exact ⟨Z0, env, m, x', m1, false, S, e1, ht, fun H1 x1 s1 => iteF ⟨Z0, env, m1, d, m', S.next x1 s1, e2, fun v H' x' s' r' => q v H' (x1.trans x') s' (.of r')⟩⟩
        · rw [sv] at hs
          have pc := ih.t G P k C X Γ c x h1 g fun i hi => hs i (List.mem_append_left _ hi)
          have pa := ih.t G P k C X Γ a y h2 g fun i hi => hs i (List.mem_append_right _ (List.mem_append_left _ hi))
          have pb := ih.t G P k C X Γ b z h3 g fun i hi => hs i (List.mem_append_right _ (List.mem_append_right _ hi))
          refine ⟨fun pins s σ H Q I ⟨Z0, env, m, d, m', t, S, ev, et, q⟩ => ?_⟩
          obtain ⟨x', m1, e1, e2⟩ := inv_ite ev
          rcases e2 with ⟨ht, e2⟩ | ⟨ht, e2⟩
          · refine PyProof.Rows.isTrue_IfExp (thn (pc.run pins s σ H (fun b H1 => b = true ∧ Ext G H H1 ∧ StR G (Zs Γ σ Z0) H1 m1) I ⟨Z0, env, m, x', m1, true, S, e1, ht, fun H1 x1 s1 => ⟨rfl, x1, s1⟩⟩) fun t1 s1 ⟨H1, I1, et1, x1, st1⟩ => ?_)
            subst et1
            exact iteT (pa.run pins s1 σ H1 Q I1 ⟨Z0, env, m1, d, m', t, S.next x1 st1, e2, et, fun H' x' s' => q H' (x1.trans x') s'⟩)
          · refine PyProof.Rows.isTrue_IfExp (thn (pc.run pins s σ H (fun b H1 => b = false ∧ Ext G H H1 ∧ StR G (Zs Γ σ Z0) H1 m1) I ⟨Z0, env, m, x', m1, false, S, e1, ht, fun H1 x1 s1 => ⟨rfl, x1, s1⟩⟩) fun t1 s1 ⟨H1, I1, et1, x1, st1⟩ => ?_)
            subst et1
            exact iteF (pb.run pins s1 σ H1 Q I1 ⟨Z0, env, m1, d, m', t, S.next x1 st1, e2, et, fun H' x' s' => q H' (x1.trans x') s'⟩)
      · cases h
    | Compare a ops bs pos =>
      simp only [cE] at h
      split at h
      · rename_i x ys h1 h2
        split at h
        · rename_i hc
          cases h
          simp only [Bool.and_eq_true, decide_eq_true_eq, Bool.not_eq_true', List.isEmpty_eq_false_iff] at hc
          refine ⟨fun st hs => (pe_compare ih g h1 h2 hc.1 hc.2 (by rwa [svS_nv (by intro i q; cases q)] at hs)).1, fun hs => (pe_compare (st := false) ih g h1 h2 hc.1 hc.2 (by intro i hi; exact hs i (by rw [sv] at hi ⊢; exact hi))).2⟩
        · cases h
      · cases h
    | Tuple es kk pos =>
      simp only [cE] at h
      split at h
      · rename_i xs hm
        cases h
        have pe : ∀ st, (∀ i, i ∈ svM xs → i ∉ Γ) → PE X (.Tuple es kk pos) (tD G X.K P Γ st (.tup xs)) := fun st hs => (pe_disp ih g hm hs).1 kk pos
        exact ⟨fun st hs => pe st (by rw [svS_nv (by intro i q; cases q), sv] at hs; exact hs), fun hs => pt_of g (pe false (by intro i hi; exact hs i (by rw [sv]; exact hi))) fun _ => rfl⟩
      · cases h
    | List es pos =>
      simp only [cE] at h
      split at h
      · rename_i xs hm
        cases h
        have pe : ∀ st, (∀ i, i ∈ svM xs → i ∉ Γ) → PE X (.List es pos) (tD G X.K P Γ st (.lst xs)) := fun st hs => tD_ofF ((pe_disp (st := false) ih g hm hs).2 pos)
        exact ⟨fun st hs => pe st (by rw [svS_nv (by intro i q; cases q), sv] at hs; exact hs), fun hs => pt_of g (pe false (by intro i hi; exact hs i (by rw [sv]; exact hi))) fun _ => rfl⟩
      · cases h
    | Subscript a s pos =>
      have nv : ∀ i, ir ≠ .var i := by
        rintro i rfl
        simp only [cE] at h
        repeat' split at h
        all_goals (first | (cases h; done) | (simp at h; done))
      refine ⟨fun st hs => pe_sub ih g h (by rwa [svS_nv nv] at hs), fun hs => pt_of g (pe_sub ih g h fun i hi => hs i ?_) fun _ => rfl⟩
      simp only [cE] at h
      repeat' split at h
      all_goals first
        | (cases h; done)
        | (cases h; rw [sv] at hi ⊢; exact hi)
    | ListComp elt gs sc pos =>
      have nv : ∀ i, ir ≠ .var i := by
        rintro i rfl
        match gs, h with
        | [gn], h => obtain ⟨_, _, _, _, _, _, _, _, _, _, _, _, q⟩ := cE_tv h; cases q
        | [], h => simp [cE] at h
        | _ :: _ :: _, h => simp [cE] at h
      refine ⟨fun st hs => tD_ofF (pe_lcF ih g h (by rwa [svS_nv nv] at hs)), fun hs => pt_of g (tD_ofF (pe_lcF ih g h fun i hi => hs i ?_)) fun _ => rfl⟩
      match gs, h with
      | [gn], h => obtain ⟨_, _, _, _, _, _, _, _, _, _, _, _, rfl⟩ := cE_tv h; rw [sv] at hi ⊢; exact hi
      | [], h => simp [cE] at h
      | _ :: _ :: _, h => simp [cE] at h
    | Call f args kws pos =>
      cases f with
      | Name x pf =>
        cases kws with
        | nil =>
          have cases_ir : (∃ (es : Nat × List E), ir = .call es.1 false es.2) ∨ (∃ b es, ir = .bi b es) ∨ ∃ ts a, ir = .isi ts a := by
            simp only [cE, cCall] at h
            repeat' split at h
            all_goals first
              | (cases h; done)
              | (cases h; exact .inr (.inl ⟨_, _, rfl⟩))
              | (cases h; exact .inr (.inr ⟨_, _, rfl⟩))
              | (cases h; exact .inl ⟨(_, _), rfl⟩)
          have nv : ∀ i, ir ≠ .var i := by
            rintro i rfl
            rcases cases_ir with ⟨_, q⟩ | ⟨_, _, q⟩ | ⟨_, _, q⟩ <;> cases q
          refine ⟨fun st hs => pe_callX ih g h (by rwa [svS_nv nv] at hs), fun hs => pt_of g (pe_callX ih g h fun i hi => hs i ?_) fun _ => rfl⟩
          rcases cases_ir with ⟨_, rfl⟩ | ⟨_, _, rfl⟩ | ⟨_, _, rfl⟩ <;> (rw [sv] at hi ⊢; exact hi)
        | cons _ _ => simp [cE] at h
      | _ => simp [cE] at h
    | _ => simp [cE] at h
  exact ⟨fun G P k C X Γ e ir st h g hs => (main G P k C X Γ e ir h g).1 st hs, fun G P k C X Γ e ir h g hs => (main G P k C X Γ e ir h g).2 hs⟩
theorem ih_all : ∀ n, IH n
  | 0 => ⟨fun G P k C X Γ e ir st h => by simp [cE] at h, fun G P k C X Γ e ir h => by simp [cE] at h⟩
  | n + 1 => ih_succ (ih_all n)
end
end Zz
/-! ZSt: lists that are new; the state of a def's body. -/
namespace Zz
open PySem PySem.Spec PyProof.Rows L2
section
variable {G : Gh} {P : Pr} {k : Nat} {C : CC} {X : Cx} {K : PySem.W.Frag} {Γ Γ' : List Nat} {Z Z0 : Addr → Prop} {σ σ' : L2.St} {H H' H1 H0 : Hp} {env env' : Env} {m m' m1 mi : List D} {st : Bool} {d : D} {v : V}

theorem opD_lst {o : Op} {x y z : D} (ho : o = .add ∨ o = .mul) (h : opD o x y = some z) (hl : (∃ xs, x = .lst xs) ∨ ∃ ys, y = .lst ys) : ∃ zs, z = .lst zs := by
  rcases ho with rfl | rfl
  · rcases hl with ⟨xs, rfl⟩ | ⟨ys, rfl⟩
    · cases y <;> simp [opD] at h
      exact ⟨_, h.2.symm⟩
    · cases x <;> simp [opD] at h
      exact ⟨_, h.2.symm⟩
  · rcases hl with ⟨xs, rfl⟩ | ⟨ys, rfl⟩
    · cases y <;> simp [opD] at h
      exact ⟨_, h.2.symm⟩
    · cases x <;> simp [opD] at h
theorem biD_lst {b : Bi} {xs : List D} {z : D} (hb : b = .list ∨ b = .sorted ∨ b = .range) (h : biD P b xs = some z) : ∃ zs, z = .lst zs := by
  rcases hb with rfl | rfl | rfl
  · rcases xs with _ | ⟨x, _ | ⟨y, r⟩⟩
    · simp [biD] at h
    · simp only [biD] at h
      split at h
      · cases h; exact ⟨_, rfl⟩
      · cases h
    · simp [biD] at h
  · obtain ⟨ys, rfl⟩ := one_list (.inr (.inl rfl)) h
    simp only [biD] at h
    split at h
    · cases h; exact ⟨_, rfl⟩
    · cases h
  · rcases bi_range h with ⟨_, _, _, rfl⟩ | ⟨_, _, _, _, _, rfl⟩ | ⟨_, _, _, _, _, _, _, rfl⟩ <;> exact ⟨_, rfl⟩
theorem frE_lst : ∀ (ir : E) {env : Env} {m m' : List D} {d : D}, frE ir = true → evE P ir env m = some (d, m') → ∃ ds, d = .lst ds
  | .lst es, _, _, _, _, _, h => by obtain ⟨xs, _, _, rfl⟩ := inv_lst h; exact ⟨_, rfl⟩
  | .comp own t it ifs x, _, _, _, _, _, h => by obtain ⟨_, _, _, ys, _, _, _, _, rfl⟩ := inv_comp h; exact ⟨_, rfl⟩
  | .bi b es, _, _, _, _, hf, h => by
    obtain ⟨xs, _, h2⟩ := inv_bi h
    simp only [frE, Bool.or_eq_true, beq_iff_eq] at hf
    exact biD_lst (by rcases hf with (h | h) | h <;> simp [h]) h2
  | .op o a b, env, m, m', d, hf, h => by
    obtain ⟨x, m1, y, h1, h2, h3⟩ := inv_op h
    simp only [frE, Bool.and_eq_true, Bool.or_eq_true, beq_iff_eq] at hf
    refine opD_lst hf.1 h3 ?_
    rcases hf.2 with hf | hf
    · exact .inl (frE_lst a hf h1)
    · exact .inr (frE_lst b hf h2)
  | .var _, _, _, _, _, hf, _ => by simp [frE] at hf
  | .lit _, _, _, _, _, hf, _ => by simp [frE] at hf
  | .neg _, _, _, _, _, hf, _ => by simp [frE] at hf
  | .cmp _ _ _, _, _, _, _, hf, _ => by simp [frE] at hf
  | .and _, _, _, _, _, hf, _ => by simp [frE] at hf
  | .or _, _, _, _, _, hf, _ => by simp [frE] at hf
  | .not _, _, _, _, _, hf, _ => by simp [frE] at hf
  | .ite _ _ _, _, _, _, _, hf, _ => by simp [frE] at hf
  | .tup _, _, _, _, _, hf, _ => by simp [frE] at hf
  | .ix _ _, _, _, _, _, hf, _ => by simp [frE] at hf
  | .sl _ _ _, _, _, _, _, hf, _ => by simp [frE] at hf
  | .isi _ _, _, _, _, _, hf, _ => by simp [frE] at hf
  | .call _ _ _, _, _, _, _, hf, _ => by simp [frE] at hf

/-- a value made by an operation -/
def tDN (G : Gh) (K : PySem.W.Frag) (P : Pr) (Γ : List Nat) (ir : E) : TE := fun σ H Q =>
  ∃ Z0 env m d m', SR G K Γ Z0 σ H env m ∧ evE P ir env m = some (d, m') ∧ ∀ v H' H2, Ext G H H2 → Amb G K (Zs Γ σ Z0) H2 m' → New G (Zs Γ σ Z0) H2 H' d v → Q v H'
theorem tDF_N {ir : E} {Q : VK} (hf : frE ir = true) (h : tDF G K P Γ ir σ H Q) : tDN G K P Γ ir σ H Q := by
  obtain ⟨Z0, env, m, d, m', S, ev, q⟩ := h
  obtain ⟨ds, rfl⟩ := frE_lst ir hf ev
  refine ⟨Z0, env, m, _, m', S, ev, fun v H' H2 x A nw => q v H' (x.trans (Ext.of nw.same)) (A.same nw.same).st nw.rep ?_⟩
  obtain ⟨p, vs, rfl, hp, rfl, r⟩ := nw.new ds rfl
  have hsa : p ≠ G.sa := fun e => by
    obtain ⟨vs, z, _⟩ := A.st
    rw [← e, hp] at z; cases z
  have hH : H p = none := by
    cases e : H p with
    | none => rfl
    | some o => rw [x p o hsa e] at hp; cases hp
  refine ⟨p, vs, ds, rfl, rfl, hH, upd_same, r.mono (fun b o _ e => Same.upd hp b o e) (fun b o z e => ?_), StR.new A hp⟩
  rcases z with z | rfl
  · exact z
  · rw [hp] at e; cases e
theorem bi_callN {b : Bi} {id : String} {x : Str} {p pos : Pos} {e : Expr} {es : List Expr} {irs : List E} {n : Nat} (ih : IH n) (g : Good G P k C X) (hc : CallR X (.builtin id) (rDs G X.K (biD P b))) (hg : Gl X x) (hm : X.mg x = none) (hb : bootBuiltins x = some (.builtin id))
    (hn : x ≠ "__name__") (hd : (x == ("__debug__" : Str)) = false) (h : mapO (cE n C) (e :: es) = some irs) (hs : ∀ i, i ∈ svL false irs → i ∉ Γ) : PE X (.Call (.Name x p) (e :: es) [] pos) (tDN G X.K P Γ (.bi b irs)) := by
  have hst := cEs_star h
  rw [List.all_cons, Bool.and_eq_true] at hst
  refine PE_imp (pe_callB hc hg hm hb (pas (st := false) ih g h hs) hn hd (star1 hst.1) (stars_any hst.2)) fun σ H Q ⟨Z0, env, m, d, m', S, ev, q⟩ => ?_
  obtain ⟨xs, e1, e2⟩ := inv_bi ev
  exact ⟨Z0, env, m, xs, m', S, e1, fun vs H1 x1 s1 r1 => ⟨_, m', xs, d, (S.next x1 s1).amb, r1.o, e2, fun v H' nw => q v H' H1 x1 (S.next x1 s1).amb nw⟩⟩
theorem bi_callTN {b : Bi} {id : String} {x : Str} {p pos : Pos} {e : Expr} {es : List Expr} {irs : List E} {n : Nat} (ih : IH n) (g : Good G P k C X) (hc : CallR X (.type id) (rDs G X.K (biD P b))) (hg : Gl X x) (hm : X.mg x = none) (hb : bootBuiltins x = some (.type id))
    (hn : x ≠ "__name__") (hd : (x == ("__debug__" : Str)) = false) (h : mapO (cE n C) (e :: es) = some irs) (hs : ∀ i, i ∈ svL false irs → i ∉ Γ) : PE X (.Call (.Name x p) (e :: es) [] pos) (tDN G X.K P Γ (.bi b irs)) := by
  have hst := cEs_star h
  rw [List.all_cons, Bool.and_eq_true] at hst
  refine PE_imp (pe_callTy hc hg hm hb (pas (st := false) ih g h hs) hn hd (star1 hst.1) (stars_any hst.2)) fun σ H Q ⟨Z0, env, m, d, m', S, ev, q⟩ => ?_
  obtain ⟨xs, e1, e2⟩ := inv_bi ev
  exact ⟨Z0, env, m, xs, m', S, e1, fun vs H1 x1 s1 r1 => ⟨_, m', xs, d, (S.next x1 s1).amb, r1.o, e2, fun v H' nw => q v H' H1 x1 (S.next x1 s1).amb nw⟩⟩
/-- list(e), sorted(e) come from the plain call -/
theorem cCall_bi {n : Nat} {f : Str} {args : List Expr} {b : Bi} {es : List E} (h : cCall (cE n C) C f args = some (.bi b es)) (hb : b = .list ∨ b = .sorted) : glB C.sc f = true ∧ f = (biN b : Str) ∧ mapO (cE n C) args = some es ∧ args ≠ [] := by
  unfold cCall at h
  split at h
  case isFalse => cases h
  case isTrue hgl =>
  rw [Bool.and_eq_true] at hgl
  split at h
  · split at h
    · split at h
      · cases h
      · cases h
    · cases h
  · split at h
    · split at h
      · split at h
        · cases h; rcases hb with hb | hb <;> cases hb
        · cases h
      · cases h
    · split at h
      · rename_i b' hb'
        split at h
        · rename_i es' hm
          cases h
          obtain ⟨h1, h2, _⟩ := cBi_spec hb'
          exact ⟨hgl.1, h1, hm, fun e => h2 (by rw [e]; rfl)⟩
        · cases h
      · cases h
theorem sndF {n : Nat} (ih : IH n) (g : Good G P k C X) {e : Expr} {ir : E} (h : cE (n + 1) C e = some ir) (hf : frE ir = true) (hs : ∀ i, i ∈ sv false ir → i ∉ Γ) : PE X e (tDF G X.K P Γ ir) := by
  cases e with
  | List es pos =>
    simp only [cE] at h
    split at h
    · rename_i xs hm
      cases h
      exact (pe_disp (st := false) ih g hm (by intro i hi; exact hs i (by rw [sv]; exact hi))).2 pos
    · cases h
  | ListComp elt gs sc pos => exact pe_lcF ih g h hs
  | BinOp a op b pos =>
    simp only [cE] at h
    split at h
    · rename_i o x y h1 h2 h3
      cases h
      have ho : pyOp o = op := by cases op <;> simp [cOp] at h1 <;> subst h1 <;> rfl
      have hop := opR (X := X) (G := G) o
      rw [ho] at hop
      refine PE_imp (PE_imp (pe_op hop (ih.e G P k C X Γ a x false h2 g fun j hj => hs j (by rw [sv]; exact List.mem_append_left _ hj)) (ih.e G P k C X Γ b y false h3 g fun j hj => hs j (by rw [sv]; exact List.mem_append_right _ hj))) fun σ H Q (h : tDN G X.K P Γ (.op o x y) σ H Q) => ?_) fun σ H Q h => tDF_N hf h
      obtain ⟨Z0, env, m, d, m', S, ev, q⟩ := h
      obtain ⟨x', m1, y', e1, e2, e3⟩ := inv_op ev
      exact tD_two S e1 e2 fun u w H2 x2 s2 r1 r2 => ⟨_, m', x', y', d, (S.next x2 s2).amb, RepB.o r1, RepB.o r2, e3, fun v H' nw => q v H' H2 x2 (S.next x2 s2).amb nw⟩
    · cases h
  | Call f args kws pos =>
    cases f with
    | Name x pf =>
      cases kws with
      | nil =>
        simp only [cE] at h
        split at h
        · rename_i a hls
          split at h
          · split at h
            · cases h; simp [frE] at hf
            · cases h
          · cases h
        · split at h
          · rename_i as hls
            split at h
            · rename_i hc
              simp only [Bool.and_eq_true, Bool.or_eq_true, decide_eq_true_eq] at hc
              split at h
              · rename_i xs hx
                cases h
                exact pe_lstRng ih g hls hc.1.1.1.1 hc.1.1.1.2 hc.2 hx fun i hi => hs i (by rw [sv]; exact hi)
              · cases h
            · cases h
          · split at h
            · split at h
              · split at h
                · cases h; simp [frE] at hf
                · cases h
              · cases h
            · -- list(..), sorted(..)
              cases ir with
              | bi b es =>
                have hb : b = .list ∨ b = .sorted := by
                  simp only [frE, Bool.or_eq_true, beq_iff_eq] at hf
                  rcases hf with (hf | hf) | hf
                  · exact .inl hf
                  · exact .inr hf
                  · subst hf
                    unfold cCall at h
                    repeat' split at h
                    all_goals first
                      | (cases h; done)
                      | (rename_i b' hb' _ _ _ ; cases h; have := (cBi_spec hb').2.2; simp at this)
                      | skip
                obtain ⟨h1, rfl, hm, hne⟩ := cCall_bi h hb
                have hs' : ∀ i, i ∈ svL false es → i ∉ Γ := fun i hi => hs i (by rw [sv]; exact hi)
                match args, hm, hne with
                | [], _, hne => exact absurd rfl hne
                | a :: as, hm, _ =>
                  rcases hb with rfl | rfl
                  · exact PE_imp (bi_callTN ih g (biR_list g.ns) (glB_gl g h1) (g.free _ (by decide +kernel)) (by decide +kernel) (by decide +kernel) (by decide +kernel) hm hs') fun σ H Q h => tDF_N hf h
                  · exact PE_imp (bi_callN ih g biR_sorted (glB_gl g h1) (g.free _ (by decide +kernel)) (by decide +kernel) (by decide +kernel) (by decide +kernel) hm hs') fun σ H Q h => tDF_N hf h
              | call _ _ _ => simp [frE] at hf
              | _ =>
                exfalso
                unfold cCall at h
                repeat' split at h
                all_goals (cases h)
      | cons _ _ => simp [cE] at h
    | _ => simp [cE] at h
  | Constant c kk pos => exfalso; cases c <;> simp [cE] at h <;> subst h <;> simp [frE] at hf
  | Name x pos =>
    exfalso
    simp only [cE] at h
    split at h
    · split at h
      · cases h; simp [frE] at hf
      · cases h
    · cases h
  | UnaryOp op a pos =>
    exfalso
    simp only [cE] at h
    split at h
    · cases h; simp [frE] at hf
    · cases h; simp [frE] at hf
    · cases h
  | BoolOp op es pos =>
    exfalso
    simp only [cE] at h
    split at h
    · split at h
      · cases h
      · cases op <;> (cases h; simp [frE] at hf)
    · cases h
  | IfExp a b c pos =>
    exfalso
    simp only [cE] at h
    split at h
    · cases h; simp [frE] at hf
    · cases h
  | Compare a b c pos =>
    exfalso
    simp only [cE] at h
    split at h
    · split at h
      · cases h; simp [frE] at hf
      · cases h
    · cases h
  | Tuple a b c =>
    exfalso
    simp only [cE] at h
    split at h
    · cases h; simp [frE] at hf
    · cases h
  | Subscript a b c =>
    exfalso
    simp only [cE] at h
    repeat' split at h
    all_goals first
      | (cases h; done)
      | (cases h; simp [frE] at hf)
  | _ => simp [cE] at h
end
end Zz
/-! ZStm: statements. -/
namespace Zz
open PySem PySem.Spec PyProof.Rows L2

/-! ### whose lists are one's own -/
def rem (Γ l : List Nat) : List Nat := Γ.filter fun i => !l.contains i
def sub (a b : List Nat) : Bool := a.all fun i => b.contains i
def inter (a b : List Nat) : List Nat := a.filter fun i => b.contains i
/-- a loop's head -/
def loopΓ (f : List Nat → Option (List Nat)) (Γ : List Nat) : Option (List Nat) :=
  match f Γ with
  | some Γ1 => if sub Γ Γ1 then some Γ else
    let Γ2 := inter Γ Γ1
    match f Γ2 with
    | some Γ3 => if sub Γ2 Γ3 then some Γ2 else none
    | none => none
  | none => none
/-- the name that gets a list of its own -/
def ownV (mu : List Nat) : T → E → Option Nat
  | .var i, e => if mu.contains i && frE e then some i else none
  | .tup [.var i, .var j], .tup [a, b] => if mu.contains i && frE a then some i else if mu.contains j && frE b then some j else none
  | _, _ => none
mutual
def oS (mu Γ : List Nat) : S → Option (List Nat)
  | .asg t e =>
    let Γ1 := rem Γ (svS true e ++ tv t)
    match ownV mu t e with
    | some i => some (i :: Γ1)
    | none => some Γ1
  | .sto x i e => let Γ1 := rem Γ (svS true e ++ sv false i); if Γ1.contains x then some Γ1 else none
  | .stS _ i e => some (rem Γ (svS true e ++ sv false i))
  | .app x e => let Γ1 := rem Γ (svS true e); if Γ1.contains x then some Γ1 else none
  | .pop x => if Γ.contains x then some Γ else none
  | .rem x e => let Γ1 := rem Γ (svS true e); if Γ1.contains x then some Γ1 else none
  | .ifs c a b => let Γ1 := rem Γ (sv true c); match oSs mu Γ1 a, oSs mu Γ1 b with | some x, some y => some (inter x y) | _, _ => none
  | .whl c b => loopΓ (fun Γ => oSs mu Γ b) (rem Γ (sv true c))
  | .for_ t it b => loopΓ (fun Γ => oSs mu Γ b) (rem Γ (svI true it ++ tv t))
  | .ret e => some Γ
  | .pass => some Γ
def oSs (mu Γ : List Nat) : List S → Option (List Nat)
  | [] => some Γ
  | s :: ss => match oS mu Γ s with | some Γ1 => oSs mu Γ1 ss | none => none
end
theorem mem_rem {Γ l : List Nat} {i : Nat} : i ∈ rem Γ l ↔ i ∈ Γ ∧ i ∉ l := by simp [rem]
theorem sub_iff {a b : List Nat} : sub a b = true ↔ ∀ i, i ∈ a → i ∈ b := by simp [sub]
theorem mem_inter {a b : List Nat} {i : Nat} : i ∈ inter a b ↔ i ∈ a ∧ i ∈ b := by simp [inter]
theorem loopΓ_spec {f : List Nat → Option (List Nat)} {Γ Γh : List Nat} (h : loopΓ f Γ = some Γh) : (∀ i, i ∈ Γh → i ∈ Γ) ∧ ∃ Γb, f Γh = some Γb ∧ ∀ i, i ∈ Γh → i ∈ Γb := by
  unfold loopΓ at h
  split at h
  · rename_i Γ1 h1
    split at h
    · rename_i hs; cases h; exact ⟨fun _ h => h, Γ1, h1, sub_iff.mp hs⟩
    · simp only at h
      split at h
      · rename_i Γ3 h3
        split at h
        · rename_i hs; cases h; exact ⟨fun i hi => (mem_inter.mp hi).1, Γ3, h3, sub_iff.mp hs⟩
        · cases h
      · cases h
  · cases h

section
variable {G : Gh} {P : Pr} {k : Nat} {C : CC} {X : Cx} {K : PySem.W.Frag} {Γ Γ' Γ1 : List Nat} {Z Z0 : Addr → Prop} {σ σ' : L2.St} {H H' H1 H2 H0 : Hp} {env env' : Env} {m m' m1 mi : List D} {st : Bool} {d : D} {v : V}

structure SS (G : Gh) (K : PySem.W.Frag) (Γ : List Nat) (Z0 : Addr → Prop) (H0 : Hp) (σ : L2.St) (H : Hp) (env : Env) (m : List D) : Prop where
  s : SR G K Γ Z0 σ H env m
  new : ∀ (i : Nat) a, i ∈ Γ → σ[i]? = some (some (.ref a)) → H0 a = none
  frm : Ext G H0 H
theorem SS.weak (S : SS G K Γ Z0 H0 σ H env m) (h : ∀ i, i ∈ Γ' → i ∈ Γ) : SS G K Γ' Z0 H0 σ H env m := ⟨S.s.weak h, fun i a hi e => S.new i a (h i hi) e, S.frm⟩
theorem SS.next (S : SS G K Γ Z0 H0 σ H env m) (x : Ext G H H') (s : StR G (Zs Γ σ Z0) H' m') : SS G K Γ Z0 H0 σ H' env m' := ⟨S.s.next x s, S.new, S.frm.trans x⟩
/-- a body's reading -/
def tS (G : Gh) (K : PySem.W.Frag) (Γ Γ' : List Nat) (ev : Env → List D → Option R) : TS := fun D σ H =>
  ∃ Z0 H0 env m r, SS G K Γ Z0 H0 σ H env m ∧ ev env m = some r ∧ match r with
    | .nx env' m' => ∀ σ' H', SS G K Γ' Z0 H0 σ' H' env' m' → D.nx σ' H'
    | .rt d m' => ∀ v H', Ext G H0 H' → StR G Z0 H' m' → Rep G Z0 H' d v → D.rt v H'
theorem PS_imp {s : Stmt} {t t' : TS} (h : PS X s t) (i : ∀ D σ H, t' D σ H → t D σ H) : PS X s t' := ⟨fun pins s σ H D I q => h.run pins s σ H D I (i D σ H q)⟩
theorem PSs_imp {s : List Stmt} {t t' : TS} (h : PSs X s t) (i : ∀ D σ H, t' D σ H → t D σ H) : PSs X s t' := ⟨fun pins s σ H D I q => h.run pins s σ H D I (i D σ H q)⟩
theorem Zs0 : ∀ b, Z0 b → Zs Γ σ Z0 b := fun _ z => .inl z
theorem Rep.weakZ (r : Rep G (Zs Γ σ Z0) H d v) : Rep G Z0 H d v := r.mono (fun _ _ _ e => e) fun b _ z _ => .inl z
theorem StR.weakZ (s : StR G (Zs Γ σ Z0) H m) : StR G Z0 H m := let ⟨vs, q, r⟩ := s; ⟨vs, q, r.mono (fun _ _ _ e => e) fun b _ z _ => .inl z⟩

/-- a list of one's own changes -/
theorem SS.mutate (S : SS G K Γ Z0 H0 σ H env m) {x : Nat} {a : Addr} {ds ds' : List D} {vs' : List V} (hx : x ∈ Γ) (he : env[x]? = some (some (.lst ds))) (hσ : σ[x]? = some (some (.ref a))) (r : Reps G (Zs Γ σ Z0) H ds' vs') :
    SS G K Γ Z0 H0 σ (upd H a (.lst vs')) (env.set x (some (.lst ds'))) m := by
  have za : Zs Γ σ Z0 a := .inr ⟨x, hx, hσ⟩
  obtain ⟨a', vs, ds1, h1, h2, h3, h4, h5⟩ := S.s.owns x hx
  rw [hσ] at h2; cases h2
  have kp : ∀ b o, ¬ Zs Γ σ Z0 b → H b = some o → (upd H a (.lst vs')) b = some o := fun b o n e => by rw [upd_ne (fun z => n (by rw [z]; exact za))]; exact e
  have hsa : G.sa ≠ a := fun e => h5 (e ▸ S.s.zsa)
  have hx' : x < env.length := (List.getElem?_eq_some_iff.mp he).1
  have rr : ∀ {d v}, Rep G (Zs Γ σ Z0) H d v → Rep G (Zs Γ σ Z0) (upd H a (.lst vs')) d v := fun r => r.mono kp fun _ _ z _ => z
  have rs : ∀ {d v}, Reps G (Zs Γ σ Z0) H d v → Reps G (Zs Γ σ Z0) (upd H a (.lst vs')) d v := fun r => r.mono kp fun _ _ z _ => z
  refine ⟨⟨by rw [List.length_set]; exact S.s.len, ⟨?_, S.s.amb.zsa, fun b z => ?_, ?_⟩, S.s.zsa, fun i d e n => ?_, fun i hi => ?_, S.s.dist⟩, S.new, fun b o n e => ?_⟩
  · obtain ⟨us, q, t⟩ := S.s.amb.st
    exact ⟨us, by rw [upd_ne hsa]; exact q, rs t⟩
  · by_cases e : b = a
    · rw [e, upd_same]; simp
    · rw [upd_ne e]; exact S.s.amb.zin b z
  · rcases S.s.amb.scr with ⟨o, h⟩ | h
    · refine .inl ⟨o, ?_⟩
      rw [upd_ne (fun e => by rw [e, h3] at h; cases h)]; exact h
    · exact .inr h
  · have hne : x ≠ i := fun e => n (e ▸ hx)
    rw [List.getElem?_set_ne hne] at e
    obtain ⟨v, q1, q2⟩ := S.s.vals i d e n
    exact ⟨v, q1, rr q2⟩
  · by_cases e : x = i
    · subst e
      exact ⟨a, vs', ds', List.getElem?_set_self hx', hσ, upd_same, rs r, h5⟩
    · obtain ⟨b, us, es, q1, q2, q3, q4, q5⟩ := S.s.owns i hi
      have hab : b ≠ a := fun z => S.s.dist x i hx hi e (by rw [hσ, q2, z])
      exact ⟨b, us, es, by rw [List.getElem?_set_ne e]; exact q1, q2, by rw [upd_ne hab]; exact q3, rs q4, q5⟩
  · rw [upd_ne (fun z => by
      have := S.new x a hx hσ
      rw [← z, e] at this; cases this)]
    exact S.frm b o n e
/-- the state changes -/
theorem SS.state (S : SS G K Γ Z0 H0 σ H env m) {vs' : List V} (r : Reps G (Zs Γ σ Z0) H m' vs') : SS G K Γ Z0 H0 σ (upd H G.sa (.lst vs')) env m' := by
  have kp : ∀ b o, b ≠ G.sa → H b = some o → (upd H G.sa (.lst vs')) b = some o := fun b o n e => by rw [upd_ne n]; exact e
  exact S.next kp ⟨vs', upd_same, S.s.amb.reps kp r⟩
/-- a name's new list becomes one's own -/
theorem SS.own (S : SS G K Γ Z0 H0 σ H env m) (x : Ext G H H') {p : Addr} {vs : List V} {ds : List D} {i : Nat} (hi : i < env.length) (ni : i ∉ Γ) (hp : H p = none) (hp' : H' p = some (.lst vs)) (r : Reps G (fun b => Zs Γ σ Z0 b ∨ b = p) H' ds vs)
    (s : StR G (fun b => Zs Γ σ Z0 b ∨ b = p) H' m') : SS G K (i :: Γ) Z0 H0 (σ.set i (some (.ref p))) H' (env.set i (some (.lst ds))) m' := by
  have hiσ : i < σ.length := by rw [← S.s.len]; exact hi
  have hz : Zs (i :: Γ) (σ.set i (some (.ref p))) Z0 = fun b => Zs Γ σ Z0 b ∨ b = p := by
    funext b
    apply propext
    constructor
    · rintro (z | ⟨j, hj, e⟩)
      · exact .inl (.inl z)
      · rcases List.mem_cons.mp hj with rfl | hj
        · rw [List.getElem?_set_self hiσ] at e
          cases e; exact .inr rfl
        · rw [List.getElem?_set_ne (fun e => ni (by rw [e]; exact hj))] at e
          exact .inl (.inr ⟨j, hj, e⟩)
    · rintro ((z | ⟨j, hj, e⟩) | rfl)
      · exact .inl z
      · exact .inr ⟨j, List.mem_cons_of_mem _ hj, by rw [List.getElem?_set_ne (fun e => ni (by rw [e]; exact hj))]; exact e⟩
      · exact .inr ⟨i, List.mem_cons_self, List.getElem?_set_self hiσ⟩
  have hsa : p ≠ G.sa := fun e => by
    obtain ⟨us, q, _⟩ := S.s.amb.st
    rw [← e, hp] at q; cases q
  have kp : ∀ b o, ¬ Zs Γ σ Z0 b → H b = some o → H' b = some o := S.s.amb.keep x
  have kz : ∀ b o, (Zs Γ σ Z0 b ∨ b = p) → H b = some o → Zs Γ σ Z0 b := fun b o z e => by
    rcases z with z | rfl
    · exact z
    · rw [hp] at e; cases e
  have np : ¬ Z0 p := fun z => S.s.amb.zin p (.inl z) hp
  refine ⟨⟨by simp [S.s.len], ⟨by rw [hz]; exact s, by rw [hz]; exact .inl S.s.amb.zsa, fun b z => ?_, S.s.amb.scr.ext x (let ⟨us, q, _⟩ := S.s.amb.st; ⟨us, q⟩)⟩, S.s.zsa, fun j d e n => ?_, fun j hj => ?_, fun a b ha hb hab => ?_⟩, fun j a hj e => ?_, S.frm.trans x⟩
  · rw [hz] at z
    rcases z with z | rfl
    · by_cases e : b = G.sa
      · obtain ⟨us, q, _⟩ := s; rw [e, q]; simp
      · cases q : H b with
        | none => exact absurd q (S.s.amb.zin b z)
        | some o => rw [x b o e q]; simp
    · rw [hp']; simp
  · simp only [List.mem_cons, not_or] at n
    rw [List.getElem?_set_ne (fun e => n.1 e.symm)] at e ⊢
    obtain ⟨v, q1, q2⟩ := S.s.vals j d e n.2
    rw [hz]
    exact ⟨v, q1, q2.mono kp kz⟩
  · rw [hz]
    rcases List.mem_cons.mp hj with rfl | hj
    · exact ⟨p, vs, ds, List.getElem?_set_self hi, List.getElem?_set_self hiσ, hp', r, np⟩
    · have hne : i ≠ j := fun e => ni (by rw [e]; exact hj)
      obtain ⟨a, us, es, q1, q2, q3, q4, q5⟩ := S.s.owns j hj
      exact ⟨a, us, es, by rw [List.getElem?_set_ne hne]; exact q1, by rw [List.getElem?_set_ne hne]; exact q2, x a _ (fun e => q5 (e ▸ S.s.zsa)) q3, q4.mono kp kz, q5⟩
  · have key : ∀ j, j ∈ Γ → (σ.set i (some (.ref p)))[j]? ≠ some (some (.ref p)) := fun j hj e => by
      rw [List.getElem?_set_ne (fun e => ni (by rw [e]; exact hj))] at e
      obtain ⟨a, us, es, q1, q2, q3, q4, q5⟩ := S.s.owns j hj
      rw [q2] at e; cases e
      rw [hp] at q3; cases q3
    rcases List.mem_cons.mp ha with rfl | ha'
    · rcases List.mem_cons.mp hb with rfl | hb'
      · exact absurd rfl hab
      · rw [List.getElem?_set_self hiσ]
        exact fun e => key b hb' e.symm
    · rcases List.mem_cons.mp hb with rfl | hb'
      · rw [List.getElem?_set_self hiσ]
        exact fun e => key a ha' e
      · rw [List.getElem?_set_ne (fun e => ni (by rw [e]; exact ha')), List.getElem?_set_ne (fun e => ni (by rw [e]; exact hb'))]
        exact S.s.dist a b ha' hb' hab
  · rcases List.mem_cons.mp hj with rfl | hj
    · rw [List.getElem?_set_self hiσ] at e
      cases e
      cases q : H0 p with
      | none => rfl
      | some o => rw [S.frm p o hsa q] at hp; cases hp
    · rw [List.getElem?_set_ne (fun e => ni (by rw [e]; exact hj))] at e
      exact S.new j a hj e
end
end Zz
/-! ZStm2: assignments, stores, appends. -/
namespace Zz
open PySem PySem.Spec PyProof.Rows L2
section
variable {G : Gh} {P : Pr} {k : Nat} {C : CC} {X : Cx} {K : PySem.W.Frag} {Γ Γ' Γ1 mu : List Nat} {Z Z0 : Addr → Prop} {σ σ' : L2.St} {H H' H1 H2 H0 : Hp} {env env' : Env} {m m' m1 mi : List D} {st : Bool} {d : D} {v : V}

theorem rem_sub {l : List Nat} : ∀ i, i ∈ rem Γ l → i ∈ Γ := fun i h => (mem_rem.mp h).1
theorem rem_not {l : List Nat} : ∀ i, i ∈ l → i ∉ rem Γ l := fun i h q => (mem_rem.mp q).2 h
theorem Good.blockKind (g : Good G P k C X) : X.env.blockKind = .function := by
  have h : X.env.scope.kind = .function := by rw [g.sc]; exact g.kind
  unfold Env.blockKind
  rw [h]; rfl
theorem Good.kindOf (g : Good G P k C X) (x : Str) : X.env.kindOf x = C.sc.names.lookup x := by
  unfold Env.kindOf; rw [g.sc]

/-- not exchanged -/
theorem swap_no {n : Nat} (g : Good G P k C X) {tg e : Expr} {ir : E} {l : Nat} (he : cE n C e = some ir) (hc : ∀ x p, tg = .Name x p → compSw C.sc x p e = false) : swapsWithSole [tg] e l X.env = pure false := by
  have ncomp : (∀ a b s p, e ≠ .ListComp a b s p) → swapsWithSole [tg] e l X.env = pure false := by
    intro hn
    cases n with
    | zero => simp [cE] at he
    | succ n => cases e <;> first | rfl | exact absurd rfl (hn _ _ _ _) | (simp [cE] at he)
  cases e with
  | ListComp a b s p =>
    show swapsWith (.ListComp a b s p) (some tg) l X.env = pure false
    cases tg with
    | Name x px =>
      have h := hc x px rfl
      unfold compSw at h
      simp only at h
      unfold swapsWith
      simp only [pure_bind]
      rw [g.blockKind, g.kindOf]
      show pure ((ScopeKind.function == ScopeKind.function) && (List.lookup x C.sc.names == some NameKind.local) && (px.line == p.line) && !(s.names.any fun x_1 => match x_1 with | (n, k) => n == x && (k == .local || k == .cell))) = pure false
      congr 1
    | _ => rfl
  | _ => exact ncomp (by intro a b s p q; cases q)
theorem swap_yes (g : Good G P k C X) {elt : Expr} {gs : List Comprehension} {s : Scope} {p px : Pos} {x : Str} {l : Nat} (h : compSw C.sc x px (.ListComp elt gs s p) = true) : swapsWith (.ListComp elt gs s p) (some (.Name x px)) l X.env = pure true := by
  unfold compSw at h
  simp only at h
  unfold swapsWith
  simp only [pure_bind]
  rw [g.blockKind, g.kindOf]
  show pure ((ScopeKind.function == ScopeKind.function) && (List.lookup x C.sc.names == some NameKind.local) && (px.line == p.line) && !(s.names.any fun x_1 => match x_1 with | (n, k) => n == x && (k == .local || k == .cell))) = pure true
  congr 1
theorem stores_no {n : Nat} {tg e : Expr} {ir : E} (he : cE n C e = some ir) (h : (∀ ts kk p, tg ≠ .Tuple ts kk p) ∨ ∀ ts kk p, e ≠ .Tuple ts kk p) (hl : ∀ ts p, tg ≠ .List ts p) : swappedStores [tg] e X.env = pure none := by
  rcases h with h | h
  · cases tg <;> first | rfl | exact absurd rfl (h _ _ _) | exact absurd rfl (hl _ _)
  · cases e <;> first | (cases tg <;> rfl) | exact absurd rfl (h _ _ _) | skip
    all_goals (cases tg <;> first | rfl | exact absurd rfl (hl _ _))
theorem stores_sw (g : Good G P k C X) {ts vs : List Expr} {kk k2 : Nat} {p p2 : Pos} {r : Option (List Str)} (h : swS C.sc ts vs = some r) (hst : vs.all noStar = true) : swappedStores [.Tuple ts kk p] (.Tuple vs k2 p2) X.env = pure r := by
  unfold swS at h
  unfold swappedStores
  simp only [pure_bind]
  rw [g.blockKind]
  have hnames : (ts.filterMap fun
    | .Name id pos => if X.env.kindOf id == some .local && pos.line == ((ts.head?.map (·.pos.line)).getD 0) then some id else none
    | _ => none) = swNames C.sc ((ts.head?.map (·.pos.line)).getD 0) ts := by
    unfold swNames
    congr 1
    funext t
    cases t <;> first | rfl | simp only [g.kindOf]
  have hstar : (vs.any fun | .Starred .. => true | _ => false) = false := by
    rw [List.any_eq_false]
    intro x hx
    have := List.all_eq_true.mp hst x hx
    cases x <;> simp [noStar] at this ⊢
  split at h
  · rename_i hc
    cases h
    rw [if_pos]
    simp only [Bool.or_eq_true] at hc ⊢
    exact .inl hc
  · rename_i hc
    rw [if_neg (by simpa using hc)]
    rw [if_neg (fun q => by have q' : (vs.any fun | .Starred .. => true | _ => false) = true := q; rw [hstar] at q'; cases q')]
    simp only at h
    have hnm : ∀ (f : List Str → Sem (Option (List Str))), f (ts.filterMap fun
    | .Name id pos => if X.env.kindOf id == some .local && pos.line == ((ts.head?.map (·.pos.line)).getD 0) then some id else none
    | _ => none) = f (swNames C.sc ((ts.head?.map (·.pos.line)).getD 0) ts) := fun f => congrArg f hnames
    refine (hnm (fun names => if (names.length != ts.length || names.eraseDups.length != names.length) = true then pure none
      else if vs.all (foldedForSure 8) = true then pure none
      else if vs.all (constantsAlone 8) = true then (do unsupported "assign.tuple-of-constant-expressions:order-of-the-stores"; pure (some names)) else pure (some names))).trans ?_
    split at h
    · rename_i hc2
      cases h
      rw [if_pos hc2]
    · rename_i hc2
      rw [if_neg hc2]
      split at h
      · rename_i hc3
        cases h
        rw [if_pos hc3]
      · rename_i hc3
        rw [if_neg hc3]
        split at h
        · cases h
        · rename_i hc4
          cases h
          rw [if_neg hc4]

theorem psName {x : Str} {px pos : Pos} {e : Expr} {te : TE} {t : T} {n n' : Nat} {ir : E} (g : Good G P k C X) (ht : cT n C (.Name x px) = some t) (he : cE n' C e = some ir) (pe : PE X e te) (hc : compSw C.sc x px e = false) :
    ∃ i, t = .var i ∧ PS X (.Assign [.Name x px] e pos) (tAsg te (gName i)) := by
  cases n with
  | zero => simp [cT] at ht
  | succ n =>
    simp only [cT] at ht
    split at ht
    · rename_i hl
      split at ht
      · rename_i i hi
        cases ht
        obtain ⟨hloc, hfn⟩ := g.stor x hl
        exact ⟨i, rfl, ps_asg pe (pg_name (i := i) (by rw [g.N]; exact g.nd) (by rw [g.N]; exact fnd_get hi) (by rw [g.sc]; exact hloc) (by rw [g.sc]; exact hfn)) (swap_no g he fun x' p' e' => by cases e'; exact hc) rfl rfl⟩
      · cases ht
    · cases ht
theorem psNameC {x : Str} {px pos : Pos} {elt : Expr} {gs : List Comprehension} {sc : Scope} {p : Pos} {t : T} {n n' : Nat} {ir : E} (ih : IH n') (g : Good G P k C X) (ht : cT n C (.Name x px) = some t) (he : cE (n' + 1) C (.ListComp elt gs sc p) = some ir) (hs : ∀ i, i ∈ sv false ir → i ∉ Γ) :
    ∃ i, t = .var i ∧ PS X (.Assign [.Name x px] (.ListComp elt gs sc p) pos) (tAsg (tDF G X.K P Γ ir) (gName i)) := by
  cases hc : compSw C.sc x px (.ListComp elt gs sc p) with
  | false => exact psName g ht he (pe_lcF ih g he hs) hc
  | true =>
    cases n with
    | zero => simp [cT] at ht
    | succ n =>
      simp only [cT] at ht
      split at ht
      · rename_i hl
        split at ht
        · rename_i i hi
          cases ht
          refine ⟨i, rfl, ?_⟩
          match gs, he, hc with
          | [⟨tg, it, ifs, asy⟩], he, hc =>
            obtain ⟨t, iit, iifs, y, h1, h2, h3, h4, h5, h6, h7, h8, rfl⟩ := cE_tv he
            simp only at h1 h2 h4 h5 h6
            subst h1
            obtain ⟨L, s1⟩ := lc_parts ih g h3 h2 h4 h5 h6 h7 h8 hs
            have hloc : List.lookup x C.sc.names = some .local := by
              unfold compSw at hc
              simp only [Bool.and_eq_true, beq_iff_eq] at hc
              exact hc.1.1
            exact PS_imp (ps_setLc (g := tG G X.K _ t) (tt := tIf G X.K P _ iifs) (te := tD G X.K P _ true y) g.calm (by rw [g.N]; exact g.nd) (by rw [g.N]; exact fnd_get hi) (by rw [g.sc]; exact hloc) (swap_yes g hc) L.pi L.ok L.pg L.pt L.pe (fold_cI h5)) fun D σ H h => lc_reads s1 h8 h
          | [], he, _ => simp [cE] at he
          | _ :: _ :: _, he, _ => simp [cE] at he
        · cases ht
      · cases ht

/-- what an assignment does -/
theorem inv_asg {t : T} {e : E} {r : R} (h : evS P (.asg t e) env m = some r) : ∃ x m1 env1, evE P e env m = some (x, m1) ∧ asgT t x env = some env1 ∧ r = .nx env1 m1 := by
  simp only [evS] at h
  split at h
  · rename_i x m1 h1
    split at h
    · rename_i env1 h2; cases h; exact ⟨x, m1, env1, h1, h2, rfl⟩
    · cases h
  · cases h
/-- the name's own reading -/
theorem rd_name {ir : E} {i : Nat} (hf : frE ir = true) {D : Ends} (hΓ : oS mu Γ (.asg (.var i) ir) = some Γ') (h : tS G K Γ Γ' (evS P (.asg (.var i) ir)) D σ H) : tAsg (tDF G K P (rem Γ (svS true ir ++ tv (.var i))) ir) (gName i) D σ H := by
  obtain ⟨Z0, H0, env, m, r, S, ev, q⟩ := h
  obtain ⟨x, m1, env1, e1, e2, rfl⟩ := inv_asg ev
  have S1 := S.weak (Γ' := rem Γ (svS true ir ++ tv (.var i))) rem_sub
  have ni : i ∉ rem Γ (svS true ir ++ tv (.var i)) := rem_not i (by simp [tv])
  simp only [asgT] at e2
  split at e2
  case isFalse => cases e2
  case isTrue hi =>
  cases e2
  refine ⟨Z0, env, m, x, m1, S1.s, e1, fun v H1 x1 s1 r1 fr => ?_⟩
  obtain ⟨p, vs, ds, rfl, rfl, hp, hp', rr, ss⟩ := fr
  unfold oS at hΓ
  simp only [ownV] at hΓ
  split at hΓ
  · rename_i i' hc
    split at hc
    · cases hc; cases hΓ
      exact q _ _ (SS.own S1 x1 hi ni hp hp' rr ss)
    · cases hc
  · cases hΓ
    have S2 := S1.next x1 s1
    refine q _ _ ⟨S2.s.set hi ni r1, fun j a hj e => ?_, S2.frm⟩
    rw [List.getElem?_set_ne (fun e => ni (by subst e; exact hj))] at e
    exact S2.new j a hj e
theorem ownV_none {t : T} {ir : E} (hf : frE ir = false ∨ ∀ i, t ≠ .var i) (hp : pairF t ir = false) : ownV mu t ir = none := by
  unfold ownV
  split
  · rcases hf with hf | hf
    · rw [hf]; simp
    · exact absurd rfl (hf _)
  · simp only [pairF, Bool.or_eq_false_iff] at hp
    simp [hp.1, hp.2]
  · rfl
theorem rd_asg {t : T} {ir : E} (hf : frE ir = false ∨ ∀ i, t ≠ .var i) (hp : pairF t ir = false) {D : Ends} (hΓ : oS mu Γ (.asg t ir) = some Γ') (h : tS G K Γ Γ' (evS P (.asg t ir)) D σ H) : tAsg (tD G K P (rem Γ (svS true ir ++ tv t)) true ir) (tG G K (rem Γ (svS true ir ++ tv t)) t) D σ H := by
  have hΓ' : Γ' = rem Γ (svS true ir ++ tv t) := by
    unfold oS at hΓ
    simp only [ownV_none hf hp] at hΓ
    cases hΓ; rfl
  subst hΓ'
  obtain ⟨Z0, H0, env, m, r, S, ev, q⟩ := h
  obtain ⟨x, m1, env1, e1, e2, rfl⟩ := inv_asg ev
  have S1 := S.weak (Γ' := rem Γ (svS true ir ++ tv t)) rem_sub
  refine ⟨Z0, env, m, x, m1, S1.s, e1, fun v H1 x1 s1 r1 => ⟨Z0, env, m1, x, env1, S1.s.next x1 s1, e2, r1, fun σ' S' c l => q σ' H1 ⟨S', fun j a hj e => ?_, S1.frm.trans x1⟩⟩⟩
  rw [c j (fun z => rem_not j (List.mem_append_right _ z) hj)] at e
  exact S1.new j a hj e
theorem gName_tG {i : Nat} {v : V} {Q : L2.St → Hp → Prop} (ni : i ∉ Γ) (h : tG G K Γ (.var i) v σ H Q) : gName i v σ H Q := by
  obtain ⟨Z0, env, m, d, env', S, ea, r, q⟩ := h
  simp only [asgT] at ea
  split at ea
  · rename_i hlt
    cases ea
    exact q _ (S.set hlt ni r) (fun j hj => List.getElem?_set_ne (fun e => hj (by simp [tv, e]))) (by simp)
  · cases ea
end
end Zz
/-! ZStm3: every statement. -/
namespace Zz
open PySem PySem.Spec PyProof.Rows L2
section
variable {G : Gh} {P : Pr} {k : Nat} {C : CC} {X : Cx} {K : PySem.W.Frag} {Γ Γ' Γ1 mu : List Nat} {Z Z0 : Addr → Prop} {σ σ' : L2.St} {H H' H1 H2 H0 : Hp} {env env' : Env} {m m' m1 mi : List D} {st : Bool} {d : D} {v : V}

structure IS (n : Nat) : Prop where
  s : ∀ (G : Gh) (P : Pr) (k : Nat) (C : CC) (X : Cx) (mu Γ Γ' : List Nat) (st : Stmt) (ir : S), cS n C st = some ir → Good G P k C X → oS mu Γ ir = some Γ' → PS X st (tS G X.K Γ Γ' (evS P ir))
  ss : ∀ (G : Gh) (P : Pr) (k : Nat) (C : CC) (X : Cx) (mu Γ Γ' : List Nat) (sts : List Stmt) (irs : List S), cSs n C sts = some irs → Good G P k C X → oSs mu Γ irs = some Γ' → PSs X sts (tS G X.K Γ Γ' (evSs P irs))

/-! ### exchanged stores -/
theorem swNames_is {sc : Scope} {l : Nat} {t : Expr} {y : Str} (h : (match t with | .Name id pos => if sc.names.lookup id == some .local && pos.line == l then some id else none | _ => none : Option Str) = some y) : ∃ p, t = .Name y p ∧ sc.names.lookup y = some .local := by
  cases t with
  | Name id pos =>
    simp only at h
    split at h
    · rename_i hc
      cases h
      simp only [Bool.and_eq_true, beq_iff_eq] at hc
      exact ⟨pos, rfl, hc.1⟩
    · cases h
  | _ => cases h
theorem swNames_all {sc : Scope} {l : Nat} : ∀ {ts : List Expr}, (swNames sc l ts).length = ts.length → Paired (fun t y => ∃ p, t = .Name y p ∧ sc.names.lookup y = some .local) ts (swNames sc l ts)
  | [], _ => .nil
  | t :: ts, h => by
    have hle : ∀ ts : List Expr, (swNames sc l ts).length ≤ ts.length := fun ts => List.length_filterMap_le _ _
    unfold swNames at h ⊢
    rw [List.filterMap_cons] at h ⊢
    split at h
    · have := hle ts
      unfold swNames at this
      simp only [List.length_cons] at h
      omega
    · rename_i y hy
      simp only [List.length_cons, Nat.add_right_cancel_iff] at h
      exact .cons (swNames_is hy) (swNames_all h)
theorem swS_some {sc : Scope} {ts vs : List Expr} {names : List Str} (h : swS sc ts vs = some (some names)) : (ts.length = 2 ∨ ts.length = 3) ∧ vs.length = ts.length ∧ Paired (fun t y => ∃ p, t = .Name y p ∧ sc.names.lookup y = some .local) ts names ∧ names.eraseDups.length = names.length := by
  unfold swS at h
  split at h
  · cases h
  · rename_i hc
    simp only at h
    split at h
    · cases h
    · rename_i hc2
      split at h
      · cases h
      · split at h
        · cases h
        · cases h
          simp only [Bool.or_eq_true, Bool.not_eq_true', bne_iff_ne, not_or, Decidable.not_not, ne_eq, Bool.not_eq_false, beq_iff_eq] at hc hc2
          refine ⟨by simpa using hc.1, hc.2, swNames_all hc2.1, hc2.2⟩
theorem dedup2 {a b : Str} (h : [a, b].eraseDups.length = [a, b].length) : a ≠ b := by
  rintro rfl
  simp [List.eraseDups_cons] at h
theorem dedup3 {a b c : Str} (h : [a, b, c].eraseDups.length = [a, b, c].length) : a ≠ b ∧ a ≠ c ∧ b ≠ c := by
  refine ⟨?_, ?_, ?_⟩
  · rintro rfl
    by_cases e : c = a
    · subst e; simp [List.eraseDups_cons] at h
    · simp [List.eraseDups_cons, e] at h
  · rintro rfl
    by_cases e : b = a
    · subst e; simp [List.eraseDups_cons] at h
    · simp [List.eraseDups_cons, e] at h
  · rintro rfl
    by_cases e : b = a
    · subst e; simp [List.eraseDups_cons] at h
    · simp [List.eraseDups_cons, e] at h
theorem cT_name {n : Nat} {x : Str} {p : Pos} {t : T} (h : cT n C (.Name x p) = some t) : ∃ i, t = .var i ∧ C.N[i]? = some x := by
  cases n with
  | zero => simp [cT] at h
  | succ n =>
    simp only [cT] at h
    split at h
    · split at h
      · rename_i i hi; cases h; exact ⟨i, rfl, fnd_get hi⟩
      · cases h
    · cases h
theorem N_inj {i j : Nat} {x y : Str} (a : C.N[i]? = some x) (b : C.N[j]? = some y) (h : x ≠ y) : i ≠ j := by
  rintro rfl
  rw [a] at b; cases b; exact h rfl
theorem set2 {i j : Nat} {x y : D} {u w : V} {env2 : Env} (S : SR G K Γ Z0 σ H env m) (e : asgTs [.var i, .var j] [x, y] env = some env2) (ni : i ∉ Γ) (nj : j ∉ Γ) (r1 : Rep G (Zs Γ σ Z0) H x u) (r2 : Rep G (Zs Γ σ Z0) H y w) :
    SR G K Γ Z0 ((σ.set i (some u)).set j (some w)) H env2 m := by
  simp only [asgTs, asgT] at e
  split at e
  · rename_i env1 h1
    split at h1
    · rename_i hi
      cases h1
      split at e
      · rename_i env3 h3
        split at h3
        · rename_i hj
          cases h3
          cases e
          have S1 := S.set hi ni r1
          refine S1.set hj nj ?_
          rw [Zs_congr (σ := σ) fun a ha => List.getElem?_set_ne fun e => ni (by rw [e]; exact ha)]
          exact r2
        · cases h3
      · cases e
    · cases h1
  · cases e
theorem set3 {i j l : Nat} {x y z : D} {u w o : V} {env2 : Env} (S : SR G K Γ Z0 σ H env m) (e : asgTs [.var i, .var j, .var l] [x, y, z] env = some env2) (ni : i ∉ Γ) (nj : j ∉ Γ) (nl : l ∉ Γ) (r1 : Rep G (Zs Γ σ Z0) H x u) (r2 : Rep G (Zs Γ σ Z0) H y w) (r3 : Rep G (Zs Γ σ Z0) H z o) :
    SR G K Γ Z0 (((σ.set i (some u)).set j (some w)).set l (some o)) H env2 m := by
  simp only [asgTs, asgT] at e
  split at e
  · rename_i env1 h1
    split at h1
    · rename_i hi
      cases h1
      split at e
      · rename_i env3 h3
        split at h3
        · rename_i hj
          cases h3
          split at e
          · rename_i env4 h4
            split at h4
            · rename_i hl
              cases h4
              cases e
              have S1 := S.set hi ni r1
              have z1 : Zs Γ (σ.set i (some u)) Z0 = Zs Γ σ Z0 := Zs_congr (σ := σ) fun a ha => List.getElem?_set_ne fun e => ni (by rw [e]; exact ha)
              have S2 := S1.set hj nj (by rw [z1]; exact r2)
              refine S2.set hl nl ?_
              rw [Zs_congr (σ := σ.set i (some u)) fun a ha => List.getElem?_set_ne fun e => nj (by rw [e]; exact ha), z1]
              exact r3
            · cases h4
          · cases e
        · cases h3
      · cases e
    · cases h1
  · cases e
theorem ownV_pair {tts : List T} {es : List E} {o : Nat} (h : ownV mu (.tup tts) (.tup es) = some o) : ∃ i j a b, tts = [.var i, .var j] ∧ es = [a, b] ∧ ((o = i ∧ frE a = true) ∨ (o = j ∧ frE b = true)) := by
  unfold ownV at h
  split at h
  · rename_i e; cases e
  · rename_i i j a b e1 e2
    cases e1; cases e2
    split at h
    · rename_i hc; cases h
      simp only [Bool.and_eq_true] at hc
      exact ⟨o, j, a, b, rfl, rfl, .inl ⟨rfl, hc.2⟩⟩
    · split at h
      · rename_i hc; cases h
        simp only [Bool.and_eq_true] at hc
        exact ⟨i, o, a, b, rfl, rfl, .inr ⟨rfl, hc.2⟩⟩
      · cases h
  · cases h
theorem Zs_or {p : Addr} : Zs Γ σ (fun b => Z0 b ∨ b = p) = fun b => Zs Γ σ Z0 b ∨ b = p := by
  funext b
  apply propext
  unfold Zs
  constructor
  · rintro ((z | z) | z)
    · exact .inl (.inl z)
    · exact .inr z
    · exact .inl (.inr z)
  · rintro ((z | z) | z)
    · exact .inl (.inl z)
    · exact .inr z
    · exact .inl (.inr z)
theorem Zs_own {p : Addr} {i : Nat} (ni : i ∉ Γ) (hiσ : i < σ.length) : Zs (i :: Γ) (σ.set i (some (.ref p))) Z0 = fun b => Zs Γ σ Z0 b ∨ b = p := by
  funext b
  apply propext
  constructor
  · rintro (z | ⟨j, hj, e⟩)
    · exact .inl (.inl z)
    · rcases List.mem_cons.mp hj with rfl | hj
      · rw [List.getElem?_set_self hiσ] at e
        cases e; exact .inr rfl
      · rw [List.getElem?_set_ne (fun e => ni (by rw [e]; exact hj))] at e
        exact .inl (.inr ⟨j, hj, e⟩)
  · rintro ((z | ⟨j, hj, e⟩) | rfl)
    · exact .inl z
    · exact .inr ⟨j, List.mem_cons_of_mem _ hj, by rw [List.getElem?_set_ne (fun e => ni (by rw [e]; exact hj))]; exact e⟩
    · exact .inr ⟨i, List.mem_cons_self, List.getElem?_set_self hiσ⟩
theorem SR.addZ {p : Addr} (S : SR G K Γ Z0 σ H env m) (x : Ext G H H1) (hp : H p = none) (hp' : H1 p ≠ none) (s : StR G (fun b => Zs Γ σ Z0 b ∨ b = p) H1 m') : SR G K Γ (fun b => Z0 b ∨ b = p) σ H1 env m' := by
  have kz : ∀ b o, (Zs Γ σ Z0 b ∨ b = p) → H b = some o → Zs Γ σ Z0 b := fun b o z e => by
    rcases z with z | rfl
    · exact z
    · rw [hp] at e; cases e
  refine ⟨S.len, ⟨by rw [Zs_or]; exact s, .inl (.inl S.zsa), fun b z => ?_, S.amb.scr.ext x (let ⟨us, q, _⟩ := S.amb.st; ⟨us, q⟩)⟩, .inl S.zsa, fun i d e n => ?_, fun i hi => ?_, S.dist⟩
  · rw [Zs_or] at z
    rcases z with z | rfl
    · by_cases e : b = G.sa
      · obtain ⟨us, q, _⟩ := s; rw [e, q]; simp
      · cases q : H b with
        | none => exact absurd q (S.amb.zin b z)
        | some o => rw [x b o e q]; simp
    · exact hp'
  · obtain ⟨v, h1, h2⟩ := S.vals i d e n
    rw [Zs_or]
    exact ⟨v, h1, h2.mono (S.amb.keep x) kz⟩
  · obtain ⟨a, us, es, q1, q2, q3, q4, q5⟩ := S.owns i hi
    rw [Zs_or]
    refine ⟨a, us, es, q1, q2, x a _ (fun e => q5 (e ▸ S.zsa)) q3, q4.mono (S.amb.keep x) kz, fun z => ?_⟩
    rcases z with z | rfl
    · exact q5 z
    · rw [hp] at q3; cases q3
theorem asg2 {i j : Nat} {x y : D} {env2 : Env} (e : asgTs [.var i, .var j] [x, y] env = some env2) : i < env.length ∧ j < env.length ∧ env2 = (env.set i (some x)).set j (some y) := by
  simp only [asgTs, asgT] at e
  split at e
  · rename_i env1 h1
    split at h1
    · rename_i hi
      cases h1
      split at e
      · rename_i env3 h3
        split at h3
        · rename_i hj
          cases h3
          cases e
          exact ⟨hi, by simpa using hj, rfl⟩
        · cases h3
      · cases e
    · cases h1
  · cases e
/-- one of two values is a new list, and becomes one's own -/
theorem psSwapF {n : Nat} (ih : ∀ n, IH n) (g : Good G P k C X) {ts vs : List Expr} {kk k2 : Nat} {p p2 pos : Pos} {names : List Str} {tts : List T} {es : List E} {o : Nat} (hsw : swS C.sc ts vs = some (some names)) (ht : mapO (cT n C) ts = some tts) (hv : mapO (cE n C) vs = some es)
    (ho : ownV mu (.tup tts) (.tup es) = some o) :
    PS X (.Assign [.Tuple ts kk p] (.Tuple vs k2 p2) pos) (tS G X.K Γ (o :: rem Γ (svS true (.tup es) ++ tv (.tup tts))) (evS P (.asg (.tup tts) (.tup es)))) := by
  obtain ⟨hl, hlv, hp, hd⟩ := swS_some hsw
  have hst := cEs_star hv
  have sws := stores_sw g (kk := kk) (k2 := k2) (p := p) (p2 := p2) hsw hst
  obtain ⟨i, j, a, b, rfl, rfl, hf⟩ := ownV_pair ho
  have hlt : ts.length = 2 := mapO_len ht
  generalize hg1 : rem Γ (svS true (.tup [a, b]) ++ tv (.tup [.var i, .var j])) = Γ1
  have hsub : ∀ i, i ∈ Γ1 → i ∈ Γ := by subst hg1; exact rem_sub
  have nv : ∀ i, i ∈ svM [a, b] → i ∉ Γ1 := by
    intro i hi
    subst hg1
    exact rem_not i (List.mem_append_left _ (by rw [svS, if_pos rfl]; show i ∈ stv (.tup _) (sv false (.tup _)); rw [sv]; exact hi))
  have nt : ∀ l, l ∈ tvs [T.var i, T.var j] → l ∉ Γ1 := by
    intro i hi
    subst hg1
    exact rem_not i (List.mem_append_right _ (by simpa [tv] using hi))
  have ni : i ∉ Γ1 := nt i (by simp [tvs, tv])
  have nj : j ∉ Γ1 := nt j (by simp [tvs, tv])
  have na : ∀ l, l ∈ svS true a → l ∉ Γ1 := fun l h => nv l (List.mem_append_left _ (by simpa [svS] using h))
  have nb : ∀ l, l ∈ svS true b → l ∉ Γ1 := fun l h => nv l (List.mem_append_right _ (List.mem_append_left _ (by simpa [svS] using h)))
  match ts, vs, names, hlt, hlv, hp with
  | [_, _], [e1, e2], [x, y], _, _, .cons ⟨p1, rfl, hx⟩ (.cons ⟨p2', rfl, hy⟩ .nil) =>
    obtain ⟨t1, r1, h1, hr1, e⟩ := mapO_cons ht; cases e
    obtain ⟨t2, r2, h2, hr2, e⟩ := mapO_cons hr1; cases e
    obtain ⟨i', e, hi⟩ := cT_name h1; cases e
    obtain ⟨j', e, hj⟩ := cT_name h2; cases e
    have hij := N_inj hi hj (dedup2 hd)
    obtain ⟨a', ra, ha, hra, e⟩ := mapO_cons hv; cases e
    obtain ⟨b', rb, hb, hrb, e⟩ := mapO_cons hra; cases e
    cases n with
    | zero => simp [cE] at ha
    | succ n =>
    have par : ∀ {ta : TA}, PA X [e1, e2] ta → _ := fun {ta} pa => ps_par (pos := pos) (px := p1) (py := p2') (pt := p) (kt := kk) (k2 := k2) (pt2 := p2) g.calm (by rw [g.N]; exact g.nd) (by rw [g.N]; exact hi) (by rw [g.N]; exact hj) hij (by rw [g.sc]; exact hx) (by rw [g.sc]; exact hy) pa sws rfl
    rcases hf with ⟨rfl, hf⟩ | ⟨rfl, hf⟩
    · have pa := sndF (Γ := Γ1) (ih n) g ha hf fun l h => na l (sv_sub (st := true) l h)
      have pb := (ih (n + 1)).e G P k C X Γ1 e2 b true hb g nb
      refine PS_imp (par (pa_cons pa (pa_cons pb pa_nil (star1 (cE_star hb))) (star1 (cE_star ha)))) fun D σ H ⟨Z0, H0, env, m, r, S, ev, q⟩ => ?_
      obtain ⟨d, m1, env1, ev1, ev2, rfl⟩ := inv_asg ev
      obtain ⟨xs, ev3, _, rfl⟩ := inv_tup ev1
      obtain ⟨da, ma, xs1, ea, ev4, rfl⟩ := inv_cons ev3
      obtain ⟨db, mb, xs2, eb, ev5, rfl⟩ := inv_cons ev4
      simp only [evEs, Option.some.injEq, Prod.mk.injEq] at ev5
      obtain ⟨rfl, rfl⟩ := ev5
      simp only [asgT] at ev2
      obtain ⟨hi', hj', rfl⟩ := asg2 ev2
      have S1 := S.weak hsub
      refine ⟨Z0, env, m, da, ma, S1.s, ea, fun u H1 x1 s1 r1 fr => ?_⟩
      obtain ⟨pp, us, ds, rfl, rfl, hp, hp', rr, ss⟩ := fr
      have SA := S1.s.addZ x1 hp (by rw [hp']; simp) ss
      refine ⟨_, env, ma, db, mb, SA, eb, fun w H2 x2 s2 r2 => ⟨_, _, rfl, ?_⟩⟩
      have r2 : Rep G (Zs Γ1 σ fun b => Z0 b ∨ b = pp) H2 db w := r2
      have hsa : pp ≠ G.sa := fun e => by
        obtain ⟨us, q, _⟩ := S1.s.amb.st
        rw [← e, hp] at q; cases q
      have rr' : Reps G (Zs Γ1 σ fun b => Z0 b ∨ b = pp) H1 ds us := by rw [Zs_or]; exact rr
      have rr2 := SA.amb.reps x2 rr'
      rw [Zs_or] at s2 rr2 r2
      have SO := SS.own S1 (x1.trans x2) hi' ni hp (x2 pp _ hsa hp') rr2 s2
      have hz : Zs (o :: Γ1) (σ.set o (some (.ref pp))) Z0 = fun b => Zs Γ1 σ Z0 b ∨ b = pp := Zs_own ni (by rw [← S1.s.len]; exact hi')
      have njj : j ∉ o :: Γ1 := by simp only [List.mem_cons, not_or]; exact ⟨fun e => hij e.symm, nj⟩
      refine q _ _ ⟨SO.s.set (by simpa using hj') njj (by rw [hz]; exact r2), fun l a hl e => ?_, SO.frm⟩
      rw [List.getElem?_set_ne (fun e => njj (by rw [e]; exact hl))] at e
      exact SO.new l a hl e
    · have pa := (ih (n + 1)).e G P k C X Γ1 e1 a true ha g na
      have pb := sndF (Γ := Γ1) (ih n) g hb hf fun l h => nb l (sv_sub (st := true) l h)
      refine PS_imp (par (pa_cons pa (pa_cons pb pa_nil (star1 (cE_star hb))) (star1 (cE_star ha)))) fun D σ H ⟨Z0, H0, env, m, r, S, ev, q⟩ => ?_
      obtain ⟨d, m1, env1, ev1, ev2, rfl⟩ := inv_asg ev
      obtain ⟨xs, ev3, _, rfl⟩ := inv_tup ev1
      obtain ⟨da, ma, xs1, ea, ev4, rfl⟩ := inv_cons ev3
      obtain ⟨db, mb, xs2, eb, ev5, rfl⟩ := inv_cons ev4
      simp only [evEs, Option.some.injEq, Prod.mk.injEq] at ev5
      obtain ⟨rfl, rfl⟩ := ev5
      simp only [asgT] at ev2
      obtain ⟨hi', hj', rfl⟩ := asg2 ev2
      have S1 := S.weak hsub
      refine ⟨Z0, env, m, da, ma, S1.s, ea, fun u H1 x1 s1 r1 => ?_⟩
      have S2 := S1.next x1 s1
      refine ⟨Z0, env, ma, db, mb, S2.s, eb, fun w H2 x2 s2 r2 fr => ⟨_, _, rfl, ?_⟩⟩
      obtain ⟨pp, us, ds, rfl, rfl, hp, hp', rr, ss⟩ := fr
      have hz : Zs Γ1 (σ.set i (some u)) Z0 = Zs Γ1 σ Z0 := Zs_congr fun l hl => List.getElem?_set_ne fun e => ni (by rw [e]; exact hl)
      have S3 : SS G X.K Γ1 Z0 H0 (σ.set i (some u)) H1 (env.set i (some da)) ma := ⟨S2.s.set hi' ni r1, fun l a hl e => by
        rw [List.getElem?_set_ne (fun e => ni (by rw [e]; exact hl))] at e
        exact S2.new l a hl e, S2.frm⟩
      exact q _ _ (SS.own S3 x2 (by simpa using hj') nj hp hp' (by rw [hz]; exact rr) (by rw [hz]; exact ss))
theorem psSwap {n : Nat} (ih : ∀ n, IH n) (g : Good G P k C X) {ts vs : List Expr} {kk k2 : Nat} {p p2 pos : Pos} {names : List Str} {tts : List T} {es : List E} (hsw : swS C.sc ts vs = some (some names)) (ht : mapO (cT n C) ts = some tts) (hv : mapO (cE n C) vs = some es) (hΓ : oS mu Γ (.asg (.tup tts) (.tup es)) = some Γ') :
    PS X (.Assign [.Tuple ts kk p] (.Tuple vs k2 p2) pos) (tS G X.K Γ Γ' (evS P (.asg (.tup tts) (.tup es)))) := by
  obtain ⟨hl, hlv, hp, hd⟩ := swS_some hsw
  have hst := cEs_star hv
  have sws := stores_sw g (kk := kk) (k2 := k2) (p := p) (p2 := p2) hsw hst
  cases ho : ownV mu (.tup tts) (.tup es) with
  | some o =>
    unfold oS at hΓ
    simp only [ho] at hΓ
    cases hΓ
    exact psSwapF ih g hsw ht hv ho
  | none =>
  have hΓ' : Γ' = rem Γ (svS true (.tup es) ++ tv (.tup tts)) := by unfold oS at hΓ; simp only [ho] at hΓ; cases hΓ; rfl
  subst hΓ'
  generalize hg1 : rem Γ (svS true (.tup es) ++ tv (.tup tts)) = Γ1
  have hsub : ∀ i, i ∈ Γ1 → i ∈ Γ := by subst hg1; exact rem_sub
  have nv : ∀ i, i ∈ svM es → i ∉ Γ1 := by
    intro i hi
    subst hg1
    exact rem_not i (List.mem_append_left _ (by rw [svS, if_pos rfl]; show i ∈ stv (.tup es) (sv false (.tup es)); rw [sv]; exact hi))
  have nt : ∀ i, i ∈ tvs tts → i ∉ Γ1 := by
    intro i hi
    subst hg1
    exact rem_not i (List.mem_append_right _ (by simpa [tv] using hi))
  have pa := pas (st := true) (ih n) g hv nv
  rcases hl with hl | hl
  · match ts, vs, names, hl, hlv, hp with
    | [_, _], [e1, e2], [x, y], _, _, .cons ⟨p1, rfl, hx⟩ (.cons ⟨p2', rfl, hy⟩ .nil) =>
      obtain ⟨t1, r1, h1, hr1, rfl⟩ := mapO_cons ht
      obtain ⟨t2, r2, h2, hr2, rfl⟩ := mapO_cons hr1
      simp only [mapO, Option.some.injEq] at hr2; subst hr2
      obtain ⟨i, rfl, hi⟩ := cT_name h1
      obtain ⟨j, rfl, hj⟩ := cT_name h2
      have hij := N_inj hi hj (dedup2 hd)
      refine PS_imp (ps_par g.calm (by rw [g.N]; exact g.nd) (by rw [g.N]; exact hi) (by rw [g.N]; exact hj) hij (by rw [g.sc]; exact hx) (by rw [g.sc]; exact hy) pa sws rfl) fun D σ H ⟨Z0, H0, env, m, r, S, ev, q⟩ => ?_
      obtain ⟨d, m1, env1, ev1, ev2, rfl⟩ := inv_asg ev
      obtain ⟨xs, ev3, _, rfl⟩ := inv_tup ev1
      have S1 := S.weak hsub
      refine ⟨Z0, env, m, xs, m1, S1.s, ev3, fun us H1 x1 s1 rr => ?_⟩
      simp only [asgT] at ev2
      have hlen := asgTs_len ev2
      match xs, hlen, rr, ev2 with
      | [a, b], _, .cons ra (.cons rb .nil), ev2 =>
        refine ⟨_, _, rfl, q _ _ ⟨set2 (S1.s.next x1 s1) ev2 (nt i (by simp [tvs, tv])) (nt j (by simp [tvs, tv])) ra rb, fun l a hl e => ?_, S1.frm.trans x1⟩⟩
        rw [List.getElem?_set_ne (fun e => nt j (by simp [tvs, tv]) (by rw [e]; exact hl)), List.getElem?_set_ne (fun e => nt i (by simp [tvs, tv]) (by rw [e]; exact hl))] at e
        exact S1.new l a hl e
  · match ts, vs, names, hl, hlv, hp with
    | [_, _, _], [e1, e2, e3], [x, y, z], _, _, .cons ⟨p1, rfl, hx⟩ (.cons ⟨p2', rfl, hy⟩ (.cons ⟨p3, rfl, hz⟩ .nil)) =>
      obtain ⟨t1, r1, h1, hr1, rfl⟩ := mapO_cons ht
      obtain ⟨t2, r2, h2, hr2, rfl⟩ := mapO_cons hr1
      obtain ⟨t3, r3, h3, hr3, rfl⟩ := mapO_cons hr2
      simp only [mapO, Option.some.injEq] at hr3; subst hr3
      obtain ⟨i, rfl, hi⟩ := cT_name h1
      obtain ⟨j, rfl, hj⟩ := cT_name h2
      obtain ⟨l, rfl, hl3⟩ := cT_name h3
      obtain ⟨d1, d2, d3⟩ := dedup3 hd
      refine PS_imp (ps_par3 g.calm (by rw [g.N]; exact g.nd) (by rw [g.N]; exact hi) (by rw [g.N]; exact hj) (by rw [g.N]; exact hl3) (N_inj hi hj d1) (N_inj hi hl3 d2) (N_inj hj hl3 d3) (by rw [g.sc]; exact hx) (by rw [g.sc]; exact hy) (by rw [g.sc]; exact hz) pa sws rfl) fun D σ H ⟨Z0, H0, env, m, r, S, ev, q⟩ => ?_
      obtain ⟨d, m1, env1, ev1, ev2, rfl⟩ := inv_asg ev
      obtain ⟨xs, ev3, _, rfl⟩ := inv_tup ev1
      have S1 := S.weak hsub
      refine ⟨Z0, env, m, xs, m1, S1.s, ev3, fun us H1 x1 s1 rr => ?_⟩
      simp only [asgT] at ev2
      have hlen := asgTs_len ev2
      match xs, hlen, rr, ev2 with
      | [a, b, c], _, .cons ra (.cons rb (.cons rc .nil)), ev2 =>
        refine ⟨_, _, _, rfl, q _ _ ⟨set3 (S1.s.next x1 s1) ev2 (nt i (by simp [tvs, tv])) (nt j (by simp [tvs, tv])) (nt l (by simp [tvs, tv])) ra rb rc, fun o a ho e => ?_, S1.frm.trans x1⟩⟩
        rw [List.getElem?_set_ne (fun e => nt l (by simp [tvs, tv]) (by rw [e]; exact ho)), List.getElem?_set_ne (fun e => nt j (by simp [tvs, tv]) (by rw [e]; exact ho)), List.getElem?_set_ne (fun e => nt i (by simp [tvs, tv]) (by rw [e]; exact ho))] at e
        exact S1.new o a ho e

def isLC : Expr → Bool
  | .ListComp _ _ _ _ => true
  | _ => false
theorem isLC_is {e : Expr} (h : isLC e = true) : ∃ a b c d, e = .ListComp a b c d := by
  cases e <;> first | exact ⟨_, _, _, _, rfl⟩ | (simp [isLC] at h)
theorem compSw_no {sc : Scope} {x : Str} {p : Pos} {e : Expr} (h : isLC e = false) : compSw sc x p e = false := by
  cases e <;> first | rfl | (simp [isLC] at h)
/-- x = e; a, b = e -/
theorem psAssign {n : Nat} (ih : ∀ n, IH n) (g : Good G P k C X) {tg e : Expr} {pos : Pos} {ir : S} (h : cS (n + 1) C (.Assign [tg] e pos) = some ir) (hns : ∀ a b p, tg ≠ .Subscript a b p) (hΓ : oS mu Γ ir = some Γ') : PS X (.Assign [tg] e pos) (tS G X.K Γ Γ' (evS P ir)) := by
  cases tg with
  | Name x px =>
    simp only [cS] at h
    split at h
    · rename_i t ie ht he
      cases h
      have hns1 : ∀ {i}, i ∈ sv false ie → i ∉ rem Γ (svS true ie ++ tv t) := fun {i} hi => rem_not i (List.mem_append_left _ (sv_sub (st := true) i hi))
      cases hf : frE ie with
      | true =>
        cases n with
        | zero => simp [cE] at he
        | succ n =>
          cases hlc : isLC e with
          | true =>
            obtain ⟨elt, gs, sc, p, rfl⟩ := isLC_is hlc
            obtain ⟨i, rfl, ps⟩ := psNameC (Γ := rem Γ (svS true ie ++ tv t)) (pos := pos) (ih n) g ht he (fun i hi => hns1 hi)
            exact PS_imp ps fun D σ H h => rd_name hf hΓ h
          | false =>
            obtain ⟨i, rfl, ps⟩ := psName (pos := pos) g ht he (sndF (Γ := rem Γ (svS true ie ++ tv t)) (ih n) g he hf (fun i hi => hns1 hi)) (compSw_no hlc)
            exact PS_imp ps fun D σ H h => rd_name hf hΓ h
      | false =>
        have hc : compSw C.sc x px e = false := by
          cases hlc : isLC e with
          | false => exact compSw_no hlc
          | true =>
          obtain ⟨elt, gs, sc, p, rfl⟩ := isLC_is hlc
          cases n with
          | zero => simp [cE] at he
          | succ n =>
            match gs, he with
            | [gn], he => obtain ⟨_, _, _, _, _, _, _, _, _, _, _, _, rfl⟩ := cE_tv he; simp [frE] at hf
            | [], he => simp [cE] at he
            | _ :: _ :: _, he => simp [cE] at he
        obtain ⟨i, rfl, ps⟩ := psName (pos := pos) g ht he ((ih n).e G P k C X (rem Γ (svS true ie ++ tv t)) e ie true he g fun i hi => rem_not i (List.mem_append_left _ hi)) hc
        refine PS_imp ps fun D σ H h => ?_
        have := rd_asg (.inl hf) rfl hΓ h
        obtain ⟨Z0, env, m, d, m', S, ev, q⟩ := this
        exact ⟨Z0, env, m, d, m', S, ev, fun v H' a b c => gName_tG (rem_not i (by simp [tv])) (q v H' a b c)⟩
    · cases h
  | Tuple ts kk p =>
    simp only [cS] at h
    split at h
    · rename_i hsw
      split at h
      · rename_i t ie ht he
        cases n with
        | zero => simp [cE] at he
        | succ n =>
        have htv : ∃ tts, t = .tup tts ∧ mapO (cT n C) ts = some tts := by
          simp only [cT] at ht
          split at ht
          · rename_i tts h1; cases ht; exact ⟨tts, rfl, h1⟩
          · cases ht
        obtain ⟨tts, rfl, hts⟩ := htv
        split at h
        case isFalse hswd =>
          cases h
          have hsub : ∀ i, i ∈ svS true ie → i ∈ svS true (.and [ie]) := fun i hi => by
            show i ∈ stv ie (sv false ie) ++ []
            rw [List.append_nil]; exact hi
          have hev : ∀ env m, evE P (.and [ie]) env m = evE P ie env m := fun _ _ => by simp only [evE, evAnd]
          have hw : swappedStores [.Tuple ts kk p] e X.env = pure none := by
            cases e with
            | Tuple vs k2 p2 =>
              simp only [Option.isSome_iff_exists] at hsw
              obtain ⟨r, hsw⟩ := hsw
              cases r with
              | none => exact stores_sw g hsw (by
                  simp only [cE] at he
                  split at he
                  · rename_i xs hm; exact cEs_star hm
                  · cases he)
              | some names => exact absurd (by simp [swd, hsw]) hswd
            | _ => exact stores_no he (.inr fun _ _ _ e' => by cases e') fun _ _ e' => by cases e'
          refine PS_imp (ps_asg (PE_imp (t' := tD G X.K P (rem Γ (svS true (.and [ie]) ++ tv (.tup tts))) true (.and [ie])) ((ih (n + 1)).e G P k C X (rem Γ (svS true (.and [ie]) ++ tv (.tup tts))) e ie true he g fun i hi => rem_not i (List.mem_append_left _ (hsub i hi))) fun σ H Q h => ?_) (pgT (Γ := rem Γ (svS true (.and [ie]) ++ tv (.tup tts))) (n + 1) (by simp only [cT]; rw [hts]) g fun i hi => rem_not i (List.mem_append_right _ hi)) (swap_no g he fun x p' e' => by cases e') hw rfl) fun D σ H h => ?_
          · obtain ⟨Z0, env, m, d, m', S, ev, q⟩ := h
            exact ⟨Z0, env, m, d, m', S, (hev env m).symm.trans ev, q⟩
          · exact rd_asg (.inr fun i e' => by cases e') (by simp [pairF]) hΓ h
        case isTrue hswd =>
        cases h
        have base : pairF (.tup tts) ie = false → swappedStores [.Tuple ts kk p] e X.env = pure none → PS X (.Assign [.Tuple ts kk p] e pos) (tS G X.K Γ Γ' (evS P (.asg (.tup tts) ie)))   := fun hpf hw => by
          refine PS_imp (ps_asg ((ih (n + 1)).e G P k C X (rem Γ (svS true ie ++ tv (.tup tts))) e ie true he g fun i hi => rem_not i (List.mem_append_left _ hi)) (pgT (Γ := rem Γ (svS true ie ++ tv (.tup tts))) (n + 1) (by simp only [cT]; rw [hts]) g fun i hi => rem_not i (List.mem_append_right _ hi)) (swap_no g he fun x p' e' => by cases e') hw rfl) fun D σ H h => ?_
          exact rd_asg (.inr fun i e' => by cases e') hpf hΓ h
        cases e with
        | Tuple vs k2 p2 =>
          simp only [Option.isSome_iff_exists] at hsw
          obtain ⟨r, hsw⟩ := hsw
          cases r with
          | none => exact base (by simpa [swd, hsw] using hswd) (stores_sw g hsw (by
              simp only [cE] at he
              split at he
              · rename_i xs hm; exact cEs_star hm
              · cases he))
          | some names =>
            simp only [cE] at he
            split at he
            · rename_i xs hm
              cases he
              exact psSwap ih g hsw hts hm hΓ
            · cases he
        | _ => exact base (by simpa [swd] using hswd) (stores_no he (.inr fun _ _ _ e' => by cases e') fun _ _ e' => by cases e')
      · cases h
    · cases h
  | Subscript a b p => exact absurd rfl (hns a b p)
  | _ => simp [cS] at h
end
end Zz
/-! ZStm4: loops, stores; every body. -/
namespace Zz
open PySem PySem.Spec PyProof.Rows L2
section
variable {G : Gh} {P : Pr} {k : Nat} {C : CC} {X : Cx} {K : PySem.W.Frag} {Γ Γ' Γ1 mu : List Nat} {Z Z0 : Addr → Prop} {σ σ' : L2.St} {H H' H1 H2 H0 : Hp} {env env' : Env} {m m' m1 mi : List D} {st : Bool} {d : D} {v : V}

theorem Good.never (g : Good G P k C X) : PassesOwn (model X.prog X.w) X.A X.env X.xe := by rw [g.xe]; exact PassesOwn.never
/-- where a loop begins anew: what is one's own is no longer told -/
noncomputable def cutH (G : Gh) (Γ : List Nat) (σ : L2.St) (H : Hp) : Hp := by
  classical
  exact fun b => if b = G.sa ∨ ∃ i, i ∈ Γ ∧ σ[i]? = some (some (.ref b)) then none else H b
theorem cutH_own {i : Nat} {a : Addr} (h : i ∈ Γ) (e : σ[i]? = some (some (.ref a))) : cutH G Γ σ H a = none := by
  unfold cutH; exact if_pos (.inr ⟨i, h, e⟩)
theorem cutH_some {b : Addr} {o : HO} (h : cutH G Γ σ H b = some o) : H b = some o := by
  unfold cutH at h
  split at h
  · cases h
  · exact h
theorem cutH_eq {b : Addr} {o : HO} (n : b ≠ G.sa) (n2 : ∀ i, i ∈ Γ → σ[i]? ≠ some (some (.ref b))) (h : H b = some o) : cutH G Γ σ H b = some o := by
  unfold cutH
  rw [if_neg]
  · exact h
  · rintro (z | ⟨i, hi, e⟩)
    · exact n z
    · exact n2 i hi e
/-- from the cut heap to the entry's -/
theorem SS.ext0 (S : SS G K Γ Z0 H0 σ H env m) (x : Ext G (cutH G Γ σ H) H') : Ext G H0 H' := fun b o n e =>
  x b o n (cutH_eq n (fun i hi e2 => by have := S.new i b hi e2; rw [e] at this; cases this) (S.frm b o n e))
theorem SS.back {env' : Env} (S : SS G K Γ Z0 H0 σ H env m) (S' : SS G K Γ' Z0 (cutH G Γ σ H) σ' H' env' m') : SS G K Γ' Z0 H0 σ' H' env' m' := by
  refine ⟨S'.s, fun i a hi e => ?_, S.ext0 S'.frm⟩
  have h1 := S'.new i a hi e
  cases q : H0 a with
  | none => rfl
  | some o =>
    obtain ⟨b, vs, ds, q1, q2, q3, q4, q5⟩ := S'.s.owns i hi
    rw [e] at q2; cases q2
    have hsa : a ≠ G.sa := fun z => q5 (z ▸ S'.s.zsa)
    rw [cutH_eq hsa (fun j hj e2 => by have := S.new j a hj e2; rw [q] at this; cases this) (S.frm a o hsa q)] at h1
    cases h1
theorem SS.cut (S : SS G K Γ Z0 H0 σ H env m) : SS G K Γ Z0 (cutH G Γ σ H) σ H env m := ⟨S.s, fun i a hi e => cutH_own hi e, fun b o _ e => cutH_some e⟩

theorem inv_for {t : T} {it : E} {b : List S} {r : R} (h : evS P (.for_ t it b) env m = some r) : ∃ d m1 xs, evE P it env m = some (d, m1) ∧ itemsD P d = some xs ∧ forGo (fun x e m => match asgT t x e with | some e1 => evSs P b e1 m | none => none) xs env m1 = some r := by
  simp only [evS] at h
  split at h
  · rename_i d m1 h1
    split at h
    · rename_i xs h2; exact ⟨d, m1, xs, h1, h2, h⟩
    · cases h
  · cases h
theorem inv_fg {f : D → Env → List D → Option R} {x : D} {xs : List D} {r : R} (h : forGo f (x :: xs) env m = some r) : ∃ r1, f x env m = some r1 ∧ match r1 with | .nx e1 m1 => forGo f xs e1 m1 = some r | .rt d m1 => r = .rt d m1 := by
  simp only [forGo] at h
  split at h
  · rename_i e1 m1 h1; exact ⟨_, h1, h⟩
  · rename_i r1 h1
    cases hr : f x env m with
    | none => rw [hr] at h; cases h
    | some r2 =>
      rw [hr] at h; cases h
      refine ⟨_, rfl, ?_⟩
      cases r with
      | nx e1 m1 => exact absurd hr (h1 e1 m1)
      | rt d m1 => rfl
theorem psFor {n : Nat} (ih : ∀ n, IH n) (is : IS n) (g : Good G P k C X) {tg it : Expr} {b : List Stmt} {pos : Pos} {t : T} {iit : E} {ib : List S} (ht : cT n C tg = some t) (hi : cI (cE n C) C (isTupE tg) it = some iit) (hb : cSs n C b = some ib) (hΓ : oS mu Γ (.for_ t iit ib) = some Γ') :
    PS X (.For tg it b [] pos) (tS G X.K Γ Γ' (evS P (.for_ t iit ib))) := by
  unfold oS at hΓ
  obtain ⟨hsub, Γb, hob, hsb⟩ := loopΓ_spec hΓ
  have h1 : ∀ i, i ∈ svI true iit → i ∉ Γ' := fun i h q => rem_not i (List.mem_append_left _ h) (hsub i q)
  have h2 : ∀ i, i ∈ tv t → i ∉ Γ' := fun i h q => rem_not i (List.mem_append_right _ h) (hsub i q)
  have pi := piI (st := true) (ih n) g hi h1
  have pg := pgT n ht g h2
  have pb := is.ss G P k C X mu Γ' Γb b ib hb g hob
  refine PS_imp (ps_for g.never g.calm pi pg pb (fold_cI hi)) fun D σ H ⟨Z0, H0, env, m, r, S0, ev, q⟩ => ?_
  have S := S0.weak (Γ' := Γ') fun i h => rem_sub i (hsub i h)
  obtain ⟨d, m1, xs, e1, e2, e3⟩ := inv_for ev
  refine ⟨Z0, env, m, d, m1, xs, S.s, e1, e2, fun J H1 x1 s1 ⟨Gd, Y, walk, kG, yld⟩ => ?_⟩
  have S1 := S.next x1 s1
  have Sc := S1.cut
  -- what the walk leans on
  have kp : ∀ {σ' H' env' m'}, SS G X.K Γ' Z0 (cutH G Γ' σ H1) σ' H' env' m' → Kp G X.K true (Zs Γ' σ Z0) H1 H' := fun {σ' H' env' m'} S' =>
    ⟨S'.s.amb.scr, fun b o hz n e => S'.frm b o n (cutH_eq n (fun i hi e2 => hz rfl (.inr ⟨i, hi, e2⟩)) e)⟩
  refine for_it walk (fun i σ' H' => ∃ env' m', SS G X.K Γ' Z0 (cutH G Γ' σ H1) σ' H' env' m' ∧ forGo (fun x e m => match asgT t x e with | some e1 => evSs P ib e1 m | none => none) (xs.drop i) env' m' = some r) ⟨env, m1, Sc, by rw [List.drop_zero]; exact e3⟩ ?_ ?_ ?_
  · rintro i σ' H' _ ⟨env', m', S', _⟩
    exact kG H' (kp S')
  · rintro i x σ' H' H'' hi ⟨env', m', S', e4⟩ hy
    obtain ⟨sm, d', hd', hr⟩ := yld i H' x H'' (Zs Γ' σ' Z0) hi (kp S') (fun b o z e => by
      rcases z with z | ⟨j, hj, e5⟩
      · exact .inl z
      · have h5 := S'.new j b hj e5
        by_cases hb : b = G.sa
        · exact .inl (hb ▸ S.s.zsa)
        · by_cases hex : ∃ i, i ∈ Γ' ∧ σ[i]? = some (some (.ref b))
          · exact .inr hex
          · rw [cutH_eq hb (fun i hi e2 => hex ⟨i, hi, e2⟩) e] at h5
            cases h5) (fun b z => S'.s.amb.zin b z) hy
    have S2 := S'.next (Ext.of sm) ((S'.s.amb.same sm).st)
    have hdrop : xs.drop i = d' :: xs.drop (i + 1) := by
      have hlt := (List.getElem?_eq_some_iff.mp hd').1
      rw [List.drop_eq_getElem_cons hlt, (List.getElem?_eq_some_iff.mp hd').2]
    rw [hdrop] at e4
    obtain ⟨r1, e5, e6⟩ := inv_fg e4
    split at e5
    case h_2 => cases e5
    case h_1 env1 ha =>
    refine ⟨Z0, env', m', d', env1, S2.s, ha, hr, fun σ2 S3 c l => ⟨Z0, _, env1, m', r1, ⟨S3, fun j a hj e => ?_, S2.frm⟩, e5, ?_⟩⟩
    · rw [c j (fun z => h2 j z hj)] at e
      exact S2.new j a hj e
    · cases r1 with
      | nx env2 m2 => exact fun σ3 H3 S4 => ⟨env2, m2, S4.weak hsb, e6⟩
      | rt dr m2 =>
        have e6 : r = .rt dr m2 := e6
        subst e6
        exact fun v H3 x3 s3 r3 => q v H3 (S1.ext0 x3) s3 r3
  · rintro σ' H' ⟨env', m', S', e4⟩
    rw [List.drop_length] at e4
    simp only [forGo, Option.some.injEq] at e4
    subst e4
    exact q σ' H' (S1.back S')

theorem inv_wg {c : Env → List D → Option (Bool × List D)} {f : Env → List D → Option R} {n : Nat} {r : R} (h : whGo c f n env m = some r) : ∃ n', n = n' + 1 ∧ ∃ b m1, c env m = some (b, m1) ∧ match b with
    | true => ∃ r1, f env m1 = some r1 ∧ (match r1 with | .nx e1 m2 => whGo c f n' e1 m2 = some r | .rt d m2 => r = .rt d m2)
    | false => r = .nx env m1 := by
  cases n with
  | zero => simp [whGo] at h
  | succ n =>
    refine ⟨n, rfl, ?_⟩
    simp only [whGo] at h
    split at h
    · rename_i m1 h1
      refine ⟨true, m1, h1, ?_⟩
      split at h
      · rename_i e1 m2 h2; exact ⟨_, h2, h⟩
      · rename_i r1 h2
        cases hr : f env m1 with
        | none => rw [hr] at h; cases h
        | some r2 =>
          rw [hr] at h; cases h
          refine ⟨_, rfl, ?_⟩
          cases r with
          | nx e1 m1 => exact absurd hr (h2 e1 m1)
          | rt d m1 => rfl
    · rename_i m1 h1; cases h; exact ⟨false, m1, h1, rfl⟩
    · cases h
theorem inv_c {c : E} {b : Bool} (h : evC P c env m = some (b, m')) : ∃ x, evE P c env m = some (x, m') ∧ truD P x = some b := by
  unfold evC at h
  split at h
  · rename_i x m1 h1
    split at h
    · rename_i b' h2; cases h; exact ⟨x, h1, h2⟩
    · cases h
  · cases h
theorem psWhile {n : Nat} (ih : ∀ n, IH n) (is : IS n) (g : Good G P k C X) {c : Expr} {b : List Stmt} {pos : Pos} {ic : E} {ib : List S} (hc : cE n C c = some ic) (hb : cSs n C b = some ib) (hΓ : oS mu Γ (.whl ic ib) = some Γ') :
    PS X (.While c b [] pos) (tS G X.K Γ Γ' (evS P (.whl ic ib))) := by
  unfold oS at hΓ
  obtain ⟨hsub, Γb, hob, hsb⟩ := loopΓ_spec hΓ
  have h1 : ∀ i, i ∈ sv true ic → i ∉ Γ' := fun i h q => rem_not i h (hsub i q)
  have pc := (ih n).t G P k C X Γ' c ic hc g h1
  have pb := is.ss G P k C X mu Γ' Γb b ib hb g hob
  refine PS_imp (ps_while g.never pc pb) fun D σ H ⟨Z0, H0, env, m, r, S0, ev, q⟩ => ?_
  have S := S0.weak (Γ' := Γ') fun i h => rem_sub i (hsub i h)
  simp only [evS] at ev
  refine ⟨fun n σ' H' => ∃ env' m', SS G X.K Γ' Z0 H0 σ' H' env' m' ∧ whGo (evC P ic) (fun e m => evSs P ib e m) n env' m' = some r, ⟨P.W, env, m, S, ev⟩, ?_⟩
  rintro n σ' H' ⟨env', m', S', e1⟩
  obtain ⟨n', rfl, b, m1, e2, e3⟩ := inv_wg e1
  obtain ⟨x, e4, e5⟩ := inv_c e2
  refine ⟨Z0, env', m', x, m1, b, S'.s, e4, e5, fun H1 x1 s1 => ?_⟩
  have S1 := S'.next x1 s1
  cases b with
  | false =>
    have e3 : r = .nx env' m1 := e3
    subst e3
    exact iteF (q σ' H1 S1)
  | true =>
    obtain ⟨r1, e6, e7⟩ := e3
    refine iteT ⟨fun σ2 H2 => ∃ env2 m2, SS G X.K Γ' Z0 H0 σ2 H2 env2 m2 ∧ whGo (evC P ic) (fun e m => evSs P ib e m) n' env2 m2 = some r, fun σ2 H2 h => ⟨n', Nat.lt_succ_self _, h⟩, Z0, H0, env', m1, r1, S1, e6, ?_⟩
    cases r1 with
    | nx env2 m2 => exact fun σ3 H3 S4 => ⟨env2, m2, S4.weak hsb, e7⟩
    | rt dr m2 =>
      have e7 : r = .rt dr m2 := e7
      subst e7
      exact q
theorem psIf {n : Nat} (ih : ∀ n, IH n) (is : IS n) (g : Good G P k C X) {c : Expr} {a b : List Stmt} {pos : Pos} {ic : E} {ia ib : List S} (hc : cE n C c = some ic) (ha : cSs n C a = some ia) (hb : cSs n C b = some ib) (hΓ : oS mu Γ (.ifs ic ia ib) = some Γ') :
    PS X (.If c a b pos) (tS G X.K Γ Γ' (evS P (.ifs ic ia ib))) := by
  unfold oS at hΓ
  simp only at hΓ
  split at hΓ
  · rename_i x y hx hy
    cases hΓ
    have pc := (ih n).t G P k C X (rem Γ (sv true ic)) c ic hc g fun i h => rem_not i h
    have pa := is.ss G P k C X mu _ _ a ia ha g hx
    have pb := is.ss G P k C X mu _ _ b ib hb g hy
    refine PS_imp (ps_if pc pa pb) fun D σ H ⟨Z0, H0, env, m, r, S0, ev, q⟩ => ?_
    have S := S0.weak (Γ' := rem Γ (sv true ic)) rem_sub
    simp only [evS] at ev
    split at ev
    · rename_i m1 h1
      obtain ⟨x', e1, e2⟩ := inv_c h1
      refine ⟨Z0, env, m, x', m1, true, S.s, e1, e2, fun H1 x1 s1 => iteT ⟨Z0, H0, env, m1, r, S.next x1 s1, ev, ?_⟩⟩
      cases r with
      | nx env' m' => exact fun σ' H' S' => q σ' H' (S'.weak fun i h => (mem_inter.mp h).1)
      | rt d m' => exact q
    · rename_i m1 h1
      obtain ⟨x', e1, e2⟩ := inv_c h1
      refine ⟨Z0, env, m, x', m1, false, S.s, e1, e2, fun H1 x1 s1 => iteF ⟨Z0, H0, env, m1, r, S.next x1 s1, ev, ?_⟩⟩
      cases r with
      | nx env' m' => exact fun σ' H' S' => q σ' H' (S'.weak fun i h => (mem_inter.mp h).2)
      | rt d m' => exact q
    · cases ev
  · cases hΓ
/-- a name that is read as it stands -/
theorem pe_slot (g : Good G P k C X) {x : Str} {p : Pos} {i : Nat} (h1 : visB C.sc x = true) (h2 : (x == ("__debug__" : Str)) = false) (h3 : (x == ("__classdict__" : Str)) = false) (hi : fnd x C.N = some i) : PE X (.Name x p) (tVar i) :=
  pe_var (by rw [g.N]; exact fnd_get hi) (by rw [g.sc]; exact visB_vis h1) h2 h3
theorem SS.slot (S : SS G K Γ Z0 H0 σ H env m) {x : Nat} (hx : x ∈ Γ) {xs : List D} (e : getE env x = some (.lst xs)) : ∃ a vs, env[x]? = some (some (.lst xs)) ∧ σ[x]? = some (some (.ref a)) ∧ H a = some (.lst vs) ∧ Reps G (Zs Γ σ Z0) H xs vs := by
  obtain ⟨a, vs, ds, h1, h2, h3, h4, h5⟩ := S.s.owns x hx
  have := getE_iff.mp e
  rw [this] at h1; cases h1
  exact ⟨a, vs, this, h2, h3, h4⟩
theorem tyV_list {a : Addr} {vs : List V} (h : H a = some (.lst vs)) : tyV K "list" (.ref a) H := .inl ⟨rfl, _, SqL.of h⟩

theorem inv_app {x : Nat} {a : E} {r : R} (h : evS P (.app x a) env m = some r) : ∃ v m1 xs, evE P a env m = some (v, m1) ∧ getE env x = some (.lst xs) ∧ xs.length < 16777216 ∧ r = .nx (env.set x (some (.lst (xs ++ [v])))) m1 := by
  simp only [evS] at h
  split at h
  · rename_i v m1 h1
    split at h
    · rename_i xs h2
      split at h
      · rename_i h3; cases h; exact ⟨v, m1, xs, h1, h2, by simpa using h3, rfl⟩
      · cases h
    · cases h
  · cases h
theorem inv_pop {x : Nat} {r : R} (h : evS P (.pop x) env m = some r) : ∃ xs, getE env x = some (.lst xs) ∧ xs.isEmpty = false ∧ r = .nx (env.set x (some (.lst xs.dropLast))) m := by
  simp only [evS] at h
  split at h
  · rename_i xs h2
    split at h
    · cases h
    · rename_i h3; cases h; exact ⟨xs, h2, by simpa using h3, rfl⟩
  · cases h
theorem inv_rem {x : Nat} {a : E} {r : R} (h : evS P (.rem x a) env m = some r) : ∃ v m1 xs ys, evE P a env m = some (v, m1) ∧ getE env x = some (.lst xs) ∧ remD v xs = some ys ∧ r = .nx (env.set x (some (.lst ys))) m1 := by
  simp only [evS] at h
  split at h
  · rename_i v m1 h1
    split at h
    · rename_i xs h2
      split at h
      · rename_i ys h3; cases h; exact ⟨v, m1, xs, ys, h1, h2, h3, rfl⟩
      · cases h
    · cases h
  · cases h
theorem remD_py {a : D} {xs ys : List D} (e : remD a xs = some ys) : ∃ p qs j, toPy a = some p ∧ toPys xs = some qs ∧ SeqAt.shaped p = true ∧ SeqAt.shaped (.list qs) = true ∧ qs.findIdx? (fun z => PyData.eqv z p) = some j ∧ ys = xs.eraseIdx j := by
  unfold remD at e
  split at e
  · rename_i x y hx hy
    split at e
    · rename_i hs
      rw [Bool.and_eq_true] at hs
      split at e
      · rename_i j hj; cases e; exact ⟨x, y, j, hx, hy, hs.1, hs.2, hj, rfl⟩
      · cases e
    · cases e
  · cases e
theorem inv_sto {x : Nat} {i a : E} {r : R} (h : evS P (.sto x i a) env m = some r) : ∃ v m1 k m2 xs j, evE P a env m = some (v, m1) ∧ evE P i env m1 = some (.int k, m2) ∧ getE env x = some (.lst xs) ∧ ixI xs.length k = some j ∧ r = .nx (env.set x (some (.lst (xs.set j v)))) m2 := by
  simp only [evS] at h
  split at h
  · rename_i v m1 h1
    split at h
    · rename_i k m2 h2
      split at h
      · rename_i xs h3
        split at h
        · rename_i j h4; cases h; exact ⟨v, m1, k, m2, xs, j, h1, h2, h3, h4, rfl⟩
        · cases h
      · cases h
    · cases h
  · cases h
theorem inv_stS {x : Nat} {i a : E} {r : R} (h : evS P (.stS x i a) env m = some r) : ∃ v m1 k m2 j, evE P a env m = some (v, m1) ∧ evE P i env m1 = some (.int k, m2) ∧ getE env x = some .st ∧ ixI m2.length k = some j ∧ r = .nx env (m2.set j v) := by
  simp only [evS] at h
  split at h
  · rename_i v m1 h1
    split at h
    · rename_i k m2 h2
      split at h
      · rename_i h3
        split at h
        · rename_i j h4; cases h; exact ⟨v, m1, k, m2, j, h1, h2, h3, h4, rfl⟩
        · cases h
      · cases h
    · cases h
  · cases h
theorem psApp {n : Nat} (ih : ∀ n, IH n) (g : Good G P k C X) {x : Str} {px apos pos pos2 : Pos} {a : Expr} {i : Nat} {ia : E} (h1 : visB C.sc x = true) (h2 : (x == ("__debug__" : Str)) = false) (h3 : (x == ("__classdict__" : Str)) = false) (hi : fnd x C.N = some i)
    (hp : (apos.endLine == pos.line) = true) (ha : cE n C a = some ia) (hΓ : oS mu Γ (.app i ia) = some Γ') :
    PS X (.Expr (.Call (.Attribute (.Name x px) "append" apos) [a] [] pos) pos2) (tS G X.K Γ Γ' (evS P (.app i ia))) := by
  unfold oS at hΓ
  simp only at hΓ
  split at hΓ
  case isFalse => cases hΓ
  case isTrue hc =>
  cases hΓ
  have hx : i ∈ rem Γ (svS true ia) := by simpa using hc
  have pa := (ih n).e G P k C X (rem Γ (svS true ia)) a ia true ha g fun j h => rem_not j h
  have hs := star1 (es := []) (env := X.env) (cE_star ha)
  refine PS_imp (ps_expr (pe_bm PySem.F.plainAttrs_list PySem.F.slot_list_append PySem.F.type_list_append mt_append (pe_slot g h1 h2 h3 hi) (pa_cons pa pa_nil hs) rfl (by rw [hs]; rfl) hp hs rfl)) fun D σ H ⟨Z0, H0, env, m, r, S0, ev, q⟩ => ?_
  have S := S0.weak (Γ' := rem Γ (svS true ia)) rem_sub
  obtain ⟨v, m1, xs, e1, e2, e3, rfl⟩ := inv_app ev
  obtain ⟨b, vs, f1, f2, f3, f4⟩ := S.slot hx e2
  refine ⟨.ref b, f2, tyV_list f3, Z0, env, m, v, m1, S.s, e1, fun w H1 x1 s1 r1 => ?_⟩
  have S1 := S.next x1 s1
  obtain ⟨b', vs', g1, g2, g3, g4⟩ := S1.slot hx e2
  rw [f2] at g2; cases g2
  refine ⟨b, vs', w, rfl, rfl, g3, by rw [← g4.length, sizeLine_is]; exact e3, ?_⟩
  exact q _ _ (S1.mutate hx g1 f2 (g4.snoc r1))
theorem psRem {n : Nat} (ih : ∀ n, IH n) (g : Good G P k C X) {x : Str} {px apos pos pos2 : Pos} {a : Expr} {i : Nat} {ia : E} (h1 : visB C.sc x = true) (h2 : (x == ("__debug__" : Str)) = false) (h3 : (x == ("__classdict__" : Str)) = false) (hi : fnd x C.N = some i)
    (hp : (apos.endLine == pos.line) = true) (ha : cE n C a = some ia) (hΓ : oS mu Γ (.rem i ia) = some Γ') :
    PS X (.Expr (.Call (.Attribute (.Name x px) "remove" apos) [a] [] pos) pos2) (tS G X.K Γ Γ' (evS P (.rem i ia))) := by
  unfold oS at hΓ
  simp only at hΓ
  split at hΓ
  case isFalse => cases hΓ
  case isTrue hc =>
  cases hΓ
  have hx : i ∈ rem Γ (svS true ia) := by simpa using hc
  have pa := (ih n).e G P k C X (rem Γ (svS true ia)) a ia true ha g fun j h => rem_not j h
  have hs := star1 (es := []) (env := X.env) (cE_star ha)
  refine PS_imp (ps_expr (pe_bm PySem.F.plainAttrs_list PySem.F.slot_list_remove PySem.F.type_list_remove (mt_removeD g.hu) (pe_slot g h1 h2 h3 hi) (pa_cons pa pa_nil hs) rfl (by rw [hs]; rfl) hp hs rfl)) fun D σ H ⟨Z0, H0, env, m, r, S0, ev, q⟩ => ?_
  have S := S0.weak (Γ' := rem Γ (svS true ia)) rem_sub
  obtain ⟨v, m1, xs, ys, e1, e2, e3, rfl⟩ := inv_rem ev
  obtain ⟨b, vs, f1, f2, f3, f4⟩ := S.slot hx e2
  refine ⟨.ref b, f2, tyV_list f3, Z0, env, m, v, m1, S.s, e1, fun w H1 x1 s1 r1 => ?_⟩
  have S1 := S.next x1 s1
  obtain ⟨b', vs', g1, g2, g3, g4⟩ := S1.slot hx e2
  rw [f2] at g2; cases g2
  obtain ⟨p, qs, j, k1, k2, k3, k4, k5, rfl⟩ := remD_py e3
  refine ⟨b, vs', w, p, qs, j, rfl, rfl, g3, g4.dp k2, (RepB.o r1).dp k1, k4, k3, k5, ?_⟩
  exact q _ _ (S1.mutate hx g1 f2 (g4.eraseIdx j))
theorem psPop (g : Good G P k C X) {x : Str} {px apos pos pos2 : Pos} {i : Nat} (h1 : visB C.sc x = true) (h2 : (x == ("__debug__" : Str)) = false) (h3 : (x == ("__classdict__" : Str)) = false) (hi : fnd x C.N = some i)
    (hp : (apos.endLine == pos.line) = true) (hΓ : oS mu Γ (.pop i) = some Γ') :
    PS X (.Expr (.Call (.Attribute (.Name x px) "pop" apos) [] [] pos) pos2) (tS G X.K Γ Γ' (evS P (.pop i))) := by
  unfold oS at hΓ
  split at hΓ
  case isFalse => cases hΓ
  case isTrue hc =>
  cases hΓ
  have hx : i ∈ Γ := by simpa using hc
  refine PS_imp (ps_expr (pe_bm0 PySem.F.plainAttrs_list PySem.F.slot_list_pop PySem.F.type_list_pop mt_pop (pe_slot g h1 h2 h3 hi) rfl hp)) fun D σ H ⟨Z0, H0, env, m, r, S, ev, q⟩ => ?_
  obtain ⟨xs, e2, e3, rfl⟩ := inv_pop ev
  obtain ⟨b, vs, f1, f2, f3, f4⟩ := S.slot hx e2
  refine ⟨.ref b, f2, tyV_list f3, ?_⟩
  have hl : vs.length - 1 < vs.length := by
    have := f4.length
    cases xs with
    | nil => simp at e3
    | cons _ _ => simp at this; omega
  exact ⟨b, vs, _, rfl, rfl, f3, List.getElem?_eq_getElem hl, q _ _ (S.mutate hx f1 f2 f4.dropLast)⟩
theorem psSto {n : Nat} (ih : ∀ n, IH n) (g : Good G P k C X) {x : Str} {px pos pos2 : Pos} {a e : Expr} {i : Nat} {ia ie : E} (h1 : visB C.sc x = true) (h2 : (x == ("__debug__" : Str)) = false) (h3 : (x == ("__classdict__" : Str)) = false) (hi : fnd x C.N = some i)
    (ha : cE n C a = some ia) (he : cE n C e = some ie) {ir : S} (hir : ir = .sto i ia ie ∨ ir = .stS i ia ie) (hΓ : oS mu Γ ir = some Γ') :
    PS X (.Assign [.Subscript (.Name x px) a pos] e pos2) (tS G X.K Γ Γ' (evS P ir)) := by
  have hΓ' : Γ' = rem Γ (svS true ie ++ sv false ia) ∧ (ir = .sto i ia ie → i ∈ rem Γ (svS true ie ++ sv false ia)) := by
    rcases hir with rfl | rfl
    · unfold oS at hΓ
      simp only at hΓ
      split at hΓ
      · rename_i hc; cases hΓ; exact ⟨rfl, fun _ => by simpa using hc⟩
      · cases hΓ
    · unfold oS at hΓ
      cases hΓ; exact ⟨rfl, fun q => by cases q⟩
  obtain ⟨rfl, hx⟩ := hΓ'
  have pe := (ih n).e G P k C X (rem Γ (svS true ie ++ sv false ia)) e ie true he g fun j h => rem_not j (List.mem_append_left _ h)
  have pa := (ih n).e G P k C X (rem Γ (svS true ie ++ sv false ia)) a ia false ha g fun j h => rem_not j (List.mem_append_right _ h)
  have hass : ∀ v, assign (.Subscript (.Name x px) a pos) X.env v = (do
      let ov ← holding [v] (eval (.Name x px) X.env)
      let iv ← holding [v, ov] (eval a X.env)
      standAt pos
      holding [v, ov, iv] (setItem ov iv v)
      release [v, ov, iv] []) := by
    intro v
    cases n with
    | zero => simp [cE] at ha
    | succ n => cases a <;> first | rfl | (simp [cE] at ha)
  refine PS_imp (ps_asg pe (pg_sub (pe_slot g h1 h2 h3 hi) pa set_list hass) (swap_no g he fun x' p' e' => by cases e') (stores_no he (.inl fun _ _ _ e' => by cases e') fun _ _ e' => by cases e') rfl) fun D σ H ⟨Z0, H0, env, m, r, S0, ev, q⟩ => ?_
  have S := S0.weak (Γ' := rem Γ (svS true ie ++ sv false ia)) rem_sub
  rcases hir with rfl | rfl
  · obtain ⟨v, m1, kk, m2, xs, j, e1, e2, e3, e4, rfl⟩ := inv_sto ev
    refine ⟨Z0, env, m, v, m1, S.s, e1, fun w H1 x1 s1 r1 => ?_⟩
    have S1 := S.next x1 s1
    obtain ⟨b, vs, f1, f2, f3, f4⟩ := S1.slot (hx rfl) e3
    refine ⟨.ref b, f2, Z0, env, m1, .int kk, m2, S1.s, e2, fun w2 H2 x2 s2 r2 => ?_⟩
    have S2 := S1.next x2 s2
    obtain ⟨b', vs', g1, g2, g3, g4⟩ := S2.slot (hx rfl) e3
    rw [f2] at g2; cases g2
    refine ⟨b, vs', kk, j, rfl, (RepB.o r2).int, g3, by rw [← g4.length, ← ixI_eq]; exact e4, ?_⟩
    exact q _ _ (S2.mutate (hx rfl) g1 f2 (g4.set (S1.s.amb.rep x2 r1) j))
  · obtain ⟨v, m1, kk, m2, j, e1, e2, e3, e4, rfl⟩ := inv_stS ev
    refine ⟨Z0, env, m, v, m1, S.s, e1, fun w H1 x1 s1 r1 => ?_⟩
    have S1 := S.next x1 s1
    have hsl : σ[i]? = some (some (.ref G.sa)) := by
      obtain ⟨u, h1, h2⟩ := S1.s.get (st := false) e3 fun z => by cases z
      have := (RepB.o h2).rep (fun _ z => by cases z)
      cases this
      exact h1
    refine ⟨.ref G.sa, hsl, Z0, env, m1, .int kk, m2, S1.s, e2, fun w2 H2 x2 s2 r2 => ?_⟩
    have S2 := S1.next x2 s2
    obtain ⟨us, q1, q2⟩ := s2
    refine ⟨G.sa, us, kk, j, rfl, (RepB.o r2).int, q1, by rw [← q2.length, ← ixI_eq]; exact e4, ?_⟩
    exact q _ _ (S2.state (q2.set (S1.s.amb.rep x2 r1) j))
theorem is_all : ∀ n, IS n
  | 0 => ⟨fun G P k C X mu Γ Γ' st ir h => by simp [cS] at h, fun G P k C X mu Γ Γ' sts irs h => by simp [cSs] at h⟩
  | n + 1 => by
    have is := is_all n
    refine ⟨fun G P k C X mu Γ Γ' st ir h g hΓ => ?_, fun G P k C X mu Γ Γ' sts irs h g hΓ => ?_⟩
    · cases st with
      | Assign tgs e pos =>
        match tgs, h with
        | [tg], h =>
          by_cases hsub : ∃ a b p, tg = .Subscript a b p
          · obtain ⟨a, b, p, rfl⟩ := hsub
            cases a with
            | Name x px =>
              have key : ∃ kk y z, (visB C.sc x && !(x == ("__debug__" : Str)) && !(x == ("__classdict__" : Str))) = true ∧ fnd x C.N = some kk ∧ cE n C b = some y ∧ cE n C e = some z ∧ (ir = .sto kk y z ∨ ir = .stS kk y z) := by
                simp only [cS] at h
                split at h
                · cases h
                · split at h
                  · rename_i hc
                    split at h
                    · rename_i kk y z h1 h2 h3
                      cases h
                      refine ⟨kk, y, z, hc, h1, h2, h3, ?_⟩
                      split
                      · exact .inr rfl
                      · exact .inl rfl
                    · cases h
                  · cases h
              obtain ⟨kk, y, z, hc, h1, h2, h3, hir⟩ := key
              simp only [Bool.and_eq_true, Bool.not_eq_true'] at hc
              exact psSto ih_all g hc.1.1 hc.1.2 hc.2 h1 h2 h3 hir hΓ
            | _ => simp [cS] at h
          · exact psAssign ih_all g h (fun a b p e => hsub ⟨a, b, p, e⟩) hΓ
        | [], h => simp [cS] at h
        | _ :: _ :: _, h => simp [cS] at h
      | Expr e pos2 =>
        cases e with
        | Constant c kk p =>
          cases c with
          | str s =>
            simp only [cS, Option.some.injEq] at h; subst h
            unfold oS at hΓ; cases hΓ
            refine PS_imp ps_doc fun D σ H ⟨Z0, H0, env, m, r, S, ev, q⟩ => ?_
            simp only [evS, Option.some.injEq] at ev; subst ev
            exact q _ _ S
          | _ => simp [cS] at h
        | Call f args kws pos =>
          cases f with
          | Attribute o mm apos =>
            cases o with
            | Name x px =>
              cases kws with
              | nil =>
                simp only [cS] at h
                split at h
                · rename_i hc
                  simp only [Bool.and_eq_true, Bool.not_eq_true'] at hc
                  split at h
                  · rename_i kk hk
                    split at h
                    · rename_i em
                      subst em
                      match args, h with
                      | [a], h =>
                        simp only at h
                        split at h
                        · rename_i y hy
                          cases h
                          exact psApp ih_all g hc.1.1.1 hc.1.1.2 hc.1.2 hk hc.2 hy hΓ
                        · cases h
                      | [], h => cases h
                      | _ :: _ :: _, h => cases h
                    · split at h
                      · rename_i em
                        subst em
                        match args, h with
                        | [a], h =>
                          simp only at h
                          split at h
                          · rename_i y hy
                            cases h
                            exact psRem ih_all g hc.1.1.1 hc.1.1.2 hc.1.2 hk hc.2 hy hΓ
                          · cases h
                        | [], h => cases h
                        | _ :: _ :: _, h => cases h
                      split at h
                      · rename_i em
                        subst em
                        match args, h with
                        | [], h =>
                          cases h
                          exact psPop g hc.1.1.1 hc.1.1.2 hc.1.2 hk hc.2 hΓ
                        | _ :: _, h => cases h
                      · cases h
                  · cases h
                · cases h
              | cons _ _ => simp [cS] at h
            | _ => simp [cS] at h
          | _ => simp [cS] at h
        | _ => simp [cS] at h
      | If c a b pos =>
        simp only [cS] at h
        split at h
        · rename_i x p q h1 h2 h3
          cases h
          exact psIf ih_all is g h1 h2 h3 hΓ
        · cases h
      | While c b oe pos =>
        cases oe with
        | nil =>
          simp only [cS] at h
          split at h
          · rename_i x p h1 h2
            cases h
            exact psWhile ih_all is g h1 h2 hΓ
          · cases h
        | cons _ _ => simp [cS] at h
      | For t it b oe pos =>
        cases oe with
        | nil =>
          simp only [cS] at h
          split at h
          · rename_i x y p h1 h2 h3
            cases h
            exact psFor ih_all is g h1 h2 h3 hΓ
          · cases h
        | cons _ _ => simp [cS] at h
      | Return e pos =>
        cases e with
        | some e =>
          simp only [cS] at h
          split at h
          · rename_i x h1
            cases h
            refine PS_imp (ps_ret ((ih_all n).e G P k C X (rem Γ (svS true x)) e x true h1 g fun j h => rem_not j h)) fun D σ H ⟨Z0, H0, env, m, r, S0, ev, q⟩ => ?_
            have S := S0.weak (Γ' := rem Γ (svS true x)) rem_sub
            simp only [evS] at ev
            split at ev
            · rename_i d m1 h2
              cases ev
              exact ⟨Z0, env, m, d, m1, S.s, h2, fun v H' x1 s1 r1 => q v H' (S.frm.trans x1) s1.weakZ (Rep.weakZ r1)⟩
            · cases ev
          · cases h
        | none =>
          simp only [cS, Option.some.injEq] at h; subst h
          refine PS_imp ps_retN fun D σ H ⟨Z0, H0, env, m, r, S, ev, q⟩ => ?_
          simp only [evS, evE, Option.some.injEq] at ev; subst ev
          exact q _ H S.frm (StR.weakZ (Γ := Γ) (σ := σ) S.s.amb.st) .non
      | Pass pos =>
        simp only [cS, Option.some.injEq] at h; subst h
        unfold oS at hΓ; cases hΓ
        refine PS_imp ps_pass fun D σ H ⟨Z0, H0, env, m, r, S, ev, q⟩ => ?_
        simp only [evS, Option.some.injEq] at ev; subst ev
        exact q _ _ S
      | _ => simp [cS] at h
    · cases sts with
      | nil =>
        simp only [cSs, Option.some.injEq] at h; subst h
        unfold oSs at hΓ; cases hΓ
        refine PSs_imp pss_nil fun D σ H ⟨Z0, H0, env, m, r, S, ev, q⟩ => ?_
        simp only [evSs, Option.some.injEq] at ev; subst ev
        exact q _ _ S
      | cons s ss =>
        simp only [cSs] at h
        split at h
        · rename_i x xs h1 h2
          cases h
          unfold oSs at hΓ
          split at hΓ
          · rename_i Γ1 hΓ1
            refine PSs_imp (pss_cons (is.s G P k C X mu Γ Γ1 s x h1 g hΓ1) (is.ss G P k C X mu Γ1 Γ' ss xs h2 g hΓ)) fun D σ H ⟨Z0, H0, env, m, r, S, ev, q⟩ => ?_
            simp only [evSs] at ev
            cases hr : evS P x env m with
            | none => rw [hr] at ev; cases ev
            | some r1 =>
              rw [hr] at ev
              refine ⟨Z0, H0, env, m, r1, S, hr, ?_⟩
              cases r1 with
              | nx env1 m1 => exact fun σ1 H1 S1 => ⟨Z0, H0, env1, m1, r, S1, ev, q⟩
              | rt d m1 => cases ev; exact q
          · cases hΓ
        · cases h
end
end Zz
/-! ZFn: every def of a program at once, then the law's. -/
namespace Zz
open PySem PySem.Spec PyProof.Rows L2

/-- a def of the text, as it is read -/
structure Fd where
  x : Str
  st : Stmt
  ps : List Str
  N : List Str
  body : List S
  mu : List Nat
def Fd.fn (d : Fd) : Fn := ⟨d.ps.length, d.N.length, d.body⟩
def Fd.key (d : Fd) : Str × Nat := (d.x, d.ps.length)
def ccF (gcd : Bool) (tab : List Fd) (d : Fd) : CC := ⟨d.N, defScope d.st, defScope d.st, tab.map Fd.key, gcd⟩
/-- what is to be looked at -/
structure FdOk (gcd : Bool) (tab : List Fd) (d : Fd) : Prop where
  c : cSs 100 (ccF gcd tab d) (defBody d.st) = some d.body
  o : (oSs d.mu [] d.body).isSome = true
  s : FnScope d.N d.ps (defScope d.st)
abbrev FdD (K : PySem.W.Frag) (d : Fd) (f : Addr) (fd : FuncData) : Prop := FunD K d.x d.x (defArgs d.st) (defBody d.st) (defScope d.st) [] [] f fd
/-- what the module holds -/
structure Mods (K : PySem.W.Frag) (mg : Str → Option Value) (gcd : Bool) (tab : List Fd) : Prop where
  d : ∀ (i : Nat) (d : Fd), tab[i]? = some d → ∃ (a : Addr) (fd : FuncData), mg d.x = some (.ref a) ∧ FdD K d a fd ∧ Binds K fd d.ps []
  free : ∀ x, x ∈ bltNames → mg x = none
  gcd : gcd = true → mg "gcd" = some (.builtin "math.gcd")

section
variable {Pg : Program} {w : World} {K : PySem.W.Frag} {mg : Str → Option Value} {base : Heap} {gcd : Bool} {tab : List Fd} {G : Gh} {W : Nat}

abbrev prK (G : Gh) (tab : List Fd) (W k : Nat) : Pr := ⟨G.ns, W, callK (tab.map Fd.fn) G.ns W k⟩

theorem get_key {i : Nat} {x : Str} {n : Nat} (h : (tab.map Fd.key)[i]? = some (x, n)) : ∃ d, tab[i]? = some d ∧ d.x = x ∧ d.ps.length = n := by
  rw [List.getElem?_map] at h
  cases e : tab[i]? with
  | none => rw [e] at h; cases h
  | some d =>
    rw [e] at h
    simp only [Option.map_some, Fd.key, Option.some.injEq, Prod.mk.injEq] at h
    exact ⟨d, rfl, h.1, h.2⟩

theorem goodF {qual : Str} {f : Addr} {cdv : Value} {A : Around} {outer : List PySem.Env} {s : Shared} {H : Hp} {E : XK} {k : Nat} {d : Fd} (M : Mods K mg gcd tab) (ok : FdOk gcd tab d)
    (hr : Room k (A.deeper (envOfC qual (defScope d.st) s.heap.objs.size f cdv)))
    (call : ∀ (i : Nat) (d : Fd), tab[i]? = some d → ∀ (a : Addr) (fd : FuncData), FdD K d a fd → FnOk Pg w K mg base CX0 k a fd d.ps (spI G K (prK G tab W k) i d.ps.length)) :
    Good G (prK G tab W k) k (ccF gcd tab d) (cxOf CX0 Pg w K mg base d.N qual (defScope d.st) f cdv A outer s H E).nox where
  ns := rfl
  N := rfl
  nd := ok.s.nd
  sc := rfl
  kind := ok.s.kind
  calm := rfl
  xe := rfl
  room := hr
  stor := fun x h => by
    refine ⟨?_, .inl rfl⟩
    have h : locB (defScope d.st) x = true := h
    unfold locB at h
    split at h
    · rename_i e; exact .inl e
    · rename_i e; exact .inr e
    · cases h
  free := M.free
  gcd := M.gcd
  call := fun i x n h => by
    obtain ⟨d', h1, rfl, rfl⟩ := get_key h
    obtain ⟨a, fd, m1, F, b⟩ := M.d i d' h1
    exact ⟨a, fd, d'.ps, m1, F.kp, b, call i d' h1 a fd F⟩

theorem start_env {Z : Addr → Prop} {H : Hp} {m : List D} {ds : List D} {vs : List V} {N : List Str} (A : Amb G K Z H m) (r : Reps G Z H ds vs) :
    SS G K [] Z H (L2.start N vs) H (ds.map some ++ List.replicate (N.length - ds.length) none) m := by
  have hz : Zs [] (L2.start N vs) Z = Z := by
    funext a; apply propext
    constructor
    · rintro (z | ⟨i, hi, _⟩)
      · exact z
      · cases hi
    · exact .inl
  have hl := r.length
  refine ⟨⟨by simp [L2.start, hl], by rw [hz]; exact A, A.zsa, fun i d e _ => ?_, fun i hi => (by cases hi), fun i j hi => (by cases hi)⟩, fun i a hi => (by cases hi), Ext.refl _⟩
  by_cases hi : i < ds.length
  · rw [List.getElem?_append_left (by simpa using hi), List.getElem?_map] at e
    cases q : ds[i]? with
    | none => rw [q] at e; cases e
    | some x =>
      rw [q] at e; cases e
      obtain ⟨v, h1, h2⟩ := r.get q
      refine ⟨v, ?_, by rw [hz]; exact h2⟩
      unfold L2.start
      rw [List.getElem?_append_left (by rw [List.length_map, ← hl]; exact hi), List.getElem?_map, h1]; rfl
  · rw [List.getElem?_append_right (by simpa using hi), List.getElem?_replicate] at e
    split at e <;> cases e

theorem callK_succ {fns : List Fn} {ns : List Int} {W k i : Nat} {xs m : List D} {f : Fn} {r : D × List D} (h : fns[i]? = some f) (e : callK fns ns W (k + 1) i xs m = some r) :
    xs.length = f.np ∧ ∃ r', evSs ⟨ns, W, callK fns ns W k⟩ f.body (xs.map some ++ List.replicate (f.nn - xs.length) none) m = some r' ∧ (match r' with | .rt d m1 => r = (d, m1) | .nx _ m1 => r = (.non, m1)) := by
  simp only [callK, h] at e
  unfold runF at e
  split at e
  · rename_i hl
    refine ⟨hl, ?_⟩
    split at e
    · rename_i d m1 h1; cases e; exact ⟨_, h1, rfl⟩
    · rename_i e1 m1 h1; cases e; exact ⟨_, h1, rfl⟩
    · cases e
  · cases e

/-- EVERY DEF does what the evaluator says -/
theorem fns_ok (M : Mods K mg gcd tab) (ok : ∀ d, d ∈ tab → FdOk gcd tab d) : ∀ (k : Nat) (i : Nat) (d : Fd), tab[i]? = some d → ∀ (a : Addr) (fd : FuncData), FdD K d a fd →
    FnOk Pg w K mg base CX0 k a fd d.ps (spI G K (prK G tab W k) i d.ps.length) := by
  intro k
  induction k with
  | zero =>
    intro i d h a fd F
    refine ⟨fun vs H Q E ⟨_, _, _, _, _, l, _⟩ => l, fun A outer s H args us vs Q E _ _ _ _ ⟨_, _, _, _, _, _, _, _, e, _⟩ => ?_⟩
    cases e
  | succ k ih =>
    intro i d h a fd F
    have okd := ok d (List.mem_of_getElem? h)
    refine F.ok okd.s (fun vs H Q E ⟨_, _, _, _, _, l, _⟩ => l) fun cdv A outer s H vs Q E hr ⟨Z, ds, m, dr, m', hl, hA, rs, ev, q⟩ => ?_
    obtain ⟨Γ', hΓ⟩ := Option.isSome_iff_exists.mp okd.o
    have g := goodF (Pg := Pg) (w := w) (base := base) (G := G) (W := W) (qual := d.x) (f := a) (outer := outer) (H := H) (E := E) M okd hr ih
    refine ⟨_, PSs.nox ((is_all 100).ss G _ k _ _ d.mu [] Γ' _ _ okd.c g hΓ), ?_⟩
    obtain ⟨hn, r', e1, e2⟩ := callK_succ (fns := tab.map Fd.fn) (f := d.fn) (by rw [List.getElem?_map, h]; rfl) ev
    refine ⟨Z, H, _, m, r', start_env hA rs, e1, ?_⟩
    cases r' with
    | nx env1 m1 =>
      cases e2
      intro σ' H' S'
      exact q _ _ S'.frm (StR.weakZ (Γ := Γ') (σ := σ') S'.s.amb.st) .non
    | rt d1 m1 =>
      cases e2
      exact fun v H' x s r => q v H' x s r
end
end Zz
/-! ZLaw: the law's def; a law's end. -/
namespace Zz
open PySem PySem.Spec PyProof.Rows L2

theorem scr_only {K : PySem.W.Frag} {H : Hp} {a p : Addr} {ns : List Int} (o : Only H) (s : SqL K H a (ns.map V.int)) : ScrOk K H ⟨p, a, ns⟩ := by
  rcases s with s | s
  · rcases s with s | ⟨q, s⟩
    · rcases o a with e | ⟨o', xs, e⟩
      · rw [e] at s; cases s
      · rw [e] at s; cases s
    · exact .inl ⟨q, s⟩
  · exact .inr s

def spLaw (K : PySem.W.Frag) (tab : List Fd) (L : Fd) (k : Nat) : Sp := fun vs H Q _ => ∃ (a : Addr) (ns : List Int) (W : Nat) (m : List D), vs = [.ref a] ∧ (∀ p, ScrOk K H ⟨p, a, ns⟩) ∧
  evSs ⟨ns, W, callK (tab.map Fd.fn) ns W k⟩ L.body (some .scr :: some .st :: List.replicate (L.N.length - 2) none) [.int 0, .int 0] = some (.rt (.bl true) m) ∧ ∀ H', Q (.bl true) H'
def isSt0 : List Stmt → Bool
  | .Assign [.Name x _] (.List [.Constant (.int a) _ _, .Constant (.int b) _ _] _) _ :: _ => decide (x = ("state" : Str)) && decide (a = 0) && decide (b = 0)
  | _ => false
theorem isSt0_is {l : List Stmt} (h : isSt0 l = true) : ∃ p1 p2 p3 p4 p5 j1 j2, l = .Assign [.Name "state" p1] (.List [.Constant (.int 0) j1 p2, .Constant (.int 0) j2 p3] p4) p5 :: l.drop 1 := by
  unfold isSt0 at h
  split at h
  · simp only [Bool.and_eq_true, decide_eq_true_eq] at h
    obtain ⟨⟨rfl, rfl⟩, rfl⟩ := h
    exact ⟨_, _, _, _, _, _, _, rfl⟩
  · cases h
/-- what is to be looked at -/
structure LawOk (gcd : Bool) (tab : List Fd) (L : Fd) : Prop where
  b : isSt0 (defBody L.st) = true
  c : cSs 100 (ccF gcd tab L) ((defBody L.st).drop 1) = some L.body
  o : (oSs L.mu [] L.body).isSome = true
  s : FnScope L.N ["script"] (defScope L.st)
  n : ∃ nr, L.N = ("script" : Str) :: ("state" : Str) :: nr
  l : locB (defScope L.st) "state" = true

section
variable {Pg : Program} {w : World} {K : PySem.W.Frag} {mg : Str → Option Value} {base : Heap} {gcd : Bool} {tab : List Fd}
theorem PSs_any {α : Type} {X : Cx} {sts : List Stmt} {t : α → TS} (h : ∀ x, PSs X sts (t x)) : PSs X sts (fun D σ H => ∃ x, t x D σ H) := ⟨fun pins s σ H D I ⟨x, q⟩ => (h x).run pins s σ H D I q⟩

theorem law_ok {L : Fd} {k : Nat} {a : Addr} {fd : FuncData} (M : Mods K mg gcd tab) (ok : ∀ d, d ∈ tab → FdOk gcd tab d) (lo : LawOk gcd tab L) (F : FdD K L a fd) :
    FnOk Pg w K mg base CX0 (k + 1) a fd ["script"] (spLaw K tab L k) := by
  refine F.ok lo.s (fun vs H Q E ⟨_, _, _, _, e, _⟩ => by rw [e]; rfl) fun cdv A outer s H vs Q E hr ⟨sc, ns, W, m, hv, hS, ev, hQ⟩ => ?_
  subst hv
  obtain ⟨p1, p2, p3, p4, p5, j1, j2, hb⟩ := isSt0_is lo.b
  have hc := lo.c
  obtain ⟨rest, hrest⟩ : ∃ r, r = (defBody L.st).drop 1 := ⟨_, rfl⟩
  rw [← hrest] at hb hc
  obtain ⟨nr, hN⟩ := lo.n
  obtain ⟨Γ', hΓ⟩ := Option.isSome_iff_exists.mp lo.o
  have hloc : Loc (defScope L.st) "state" := by
    have h := lo.l
    unfold locB at h
    split at h
    · rename_i e; exact .inl e
    · rename_i e; exact .inr e
    · cases h
  have g : ∀ p : Addr, Good ⟨p, sc, ns⟩ (prK ⟨p, sc, ns⟩ tab W k) k (ccF gcd tab L) (cxOf CX0 Pg w K mg base L.N L.x (defScope L.st) a cdv A outer s H E).nox := fun p => {
    ns := rfl, N := rfl, nd := lo.s.nd, sc := rfl, kind := lo.s.kind, calm := rfl, xe := rfl, room := hr
    stor := fun x h => by
      refine ⟨?_, .inl rfl⟩
      have h : locB (defScope L.st) x = true := h
      unfold locB at h
      split at h
      · rename_i e; exact .inl e
      · rename_i e; exact .inr e
      · cases h
    free := M.free
    gcd := M.gcd
    call := fun i x n h => by
      obtain ⟨d', h1, rfl, rfl⟩ := get_key h
      obtain ⟨a, fd, m1, F, b⟩ := M.d i d' h1
      exact ⟨a, fd, d'.ps, m1, F.kp, b, fns_ok M ok k i d' h1 a fd F⟩ }
  refine ⟨_, PSs.nox (hb ▸ pss_cons (ps_set (i := 1) lo.s.nd (by show L.N[1]? = _; rw [hN]; rfl) hloc (pe_lst (pa_cons pe_int (pa_cons pe_int pa_nil))) (by rfl) (.inl rfl))
    (PSs_any fun p : Addr => (is_all 100).ss ⟨p, sc, ns⟩ _ k _ _ L.mu [] Γ' _ _ hc (g p) hΓ)), ?_⟩
  refine ⟨by decide, fun p hp => ⟨p, ?_⟩⟩
  have hscp : ScrOk K (upd H p (.lst [.int 0, .int 0])) ⟨p, sc, ns⟩ := by
    rcases hS p with ⟨o, h⟩ | h
    · exact .inl ⟨o, by rw [upd_ne (ne_of_none h hp)]; exact h⟩
    · exact .inr h
  have hz : Zs [] ((L2.start L.N [.ref sc]).set 1 (some (.ref p))) (fun b => b = p) = fun b => b = p := by
    funext b; apply propext
    constructor
    · rintro (z | ⟨i, hi, _⟩)
      · exact z
      · cases hi
    · exact .inl
  have hst : L2.start L.N [.ref sc] = some (.ref sc) :: none :: List.replicate nr.length none := by
    rw [hN]; rfl
  have hrep : List.replicate (L.N.length - 2) (none : Option D) = List.replicate nr.length none := by rw [hN]; rfl
  rw [hrep] at ev
  refine ⟨fun b => b = p, upd H p (.lst [.int 0, .int 0]), _, _, _, ?_, ev, fun v H' x st r => ?_⟩
  · refine ⟨⟨by rw [hst]; simp, by rw [hz]; exact ⟨⟨_, upd_same, .cons (.int 0) (.cons (.int 0) .nil)⟩, rfl, fun b z => by rw [z, upd_same]; simp, hscp⟩, rfl, fun i d e _ => ?_, fun i hi => (by cases hi), fun i j hi => (by cases hi)⟩, fun i a hi => (by cases hi), Ext.refl _⟩
    rw [hz, hst]
    match i, e with
    | 0, e => simp at e; subst e; exact ⟨.ref sc, rfl, .scr⟩
    | 1, e => simp at e; subst e; exact ⟨.ref p, rfl, .st⟩
    | i + 2, e =>
      simp only [List.getElem?_cons_succ, List.getElem?_replicate] at e
      split at e <;> cases e
  · cases r; exact hQ H'
end

/-- a law: F gives the written part, the function object, the promise over every base; the numbers' sizes are told -/
theorem walk_ofEB {l : PySem.W.OpenLaw} {n k : Nat} {q : Program} {loose : List Str} {XP : (Str → Option Value) → Heap → Prop} {YP : World → Heap → Prop} {d : DefRec} {CX : CXT} {x : Str}
    (hn : l.most = some n) (hn2 : n ≤ sizeLine) (hdf : d.params.defaults = []) (hr : Room k callerA)
    (F : ∀ (w : World) (mg : Str → Option Value) (fa : Addr) (h : Heap), YP w h → h.Ns mainGlobals mg → mg d.name = some (.ref fa) →
      ∃ (K : PySem.W.Frag) (fd : FuncData) (sp : Sp), K.In h ∧ (∀ (s : Shared) (u : Value), BindsTo s fd ⟨[u], []⟩ [(x, u)]) ∧
        (∀ (H : Hp) (a : Addr) (ns : List Int), ns.length ≤ n → (∀ z ∈ ns, Builtin.Int.intBits z ≤ 1048576) → Only H → SqL K H a (ns.map V.int) → sp [.ref a] H (fun v _ => v = .bl true) fun _ _ _ => False) ∧
        ∀ base : Heap, K.In base → base.Ns mainGlobals mg → FnOk l.prog w K mg base CX k fa fd [x] sp)
    (hCX : ∀ (H : Hp) (s : Shared) (e : Value) (s' : Shared), CX [] H s (fun _ _ _ => False) e s' → False) :
    PySem.W.WalkO q loose XP YP l.row.toRowW d [] (fun f vs => PySem.call f vs) :=
  Att.attach_callB hn hdf fun w s₀ s₁ mg mb fa o pm cd doc a vs ns G Y ho hd hcd hmg hobj hints hlen hbits hg => by
    obtain ⟨K, fd, sp, KX, hb, hsp, hF⟩ := F w mg fa _ Y G.T.g hmg
    exact law_call KX G.T.g G.T.b G.T.builtins G.T.nolimit hg hobj hints (Nat.le_trans hlen hn2) hr hF hb (fun H hO hS => hsp H a ns hlen hbits hO hS) fun H e s' => hCX H s₁ e s'
end Zz
/-! ZHead: what the module holds, from the head. -/
namespace Zz
open PySem PySem.Spec PyProof.Rows L2
def dd (d : Fd) : He.DefD := ⟨(d.x, none), d.x, d.x, defArgs d.st, defBody d.st, defScope d.st, [], []⟩
def faOf (tab : List Fd) : List He.Fa := (tab.map fun d => He.Fa.glo d.x) ++ .glo "law" :: bltNames.map He.Fa.free
def fnOf (tab : List Fd) (L : Fd) : List He.DefD := tab.map dd ++ [dd L]
/-- the parameters are bound one by one -/
def BindOk (d : Fd) : Prop := ∀ (kV doc pm : Value) (an : Option Addr) (cdv ct : Value) (us : List Value), us.length = d.ps.length → bindArgs (PySem.W.fnOf d.x d.x (defArgs d.st) (defBody d.st) (defScope d.st) .none kV doc pm an cdv ct) ⟨us, []⟩ = pure (d.ps.zip us)
structure TabOk (gcd : Bool) (tab : List Fd) (L : Fd) : Prop where
  d : ∀ d, d ∈ tab → FdOk gcd tab d ∧ BindOk d
  l : LawOk gcd tab L
  b : BindOk L
  x : L.x = "law"
  p : L.ps = [("script" : Str)]
section
variable {Pg : Program} {w : World} {K : PySem.W.Frag} {h : Heap} {mg : Str → Option Value} {gcd : Bool} {tab : List Fd} {L : Fd} {f : Addr} {k : Nat}
theorem mods_of (X : K.In h) (G : h.Ns mainGlobals mg) (T : TabOk gcd tab L) (c : He.SaysD (faOf tab) (fnOf tab L) K) (hg : gcd = true → mg "gcd" = some (.builtin "math.gcd")) : Mods K mg gcd tab where
  d := fun i d hi => by
    obtain ⟨fd, F⟩ := c.defs (d := dd d) (List.mem_append_left _ (List.mem_map.mpr ⟨d, List.mem_of_getElem? hi, rfl⟩))
    have F : FdD K d (He.fAd K (d.x, none)) fd := F
    refine ⟨_, fd, ?_, F, F.bindsN (T.d d (List.mem_of_getElem? hi)).2⟩
    exact He.glo_ok X G (c.facts (List.mem_append_left _ (List.mem_map.mpr ⟨d, List.mem_of_getElem? hi, rfl⟩)))
  free := fun x hx => He.free_ok X G (c.facts (List.mem_append_right _ (List.mem_cons_of_mem _ (List.mem_map.mpr ⟨x, hx, rfl⟩))))
  gcd := hg
theorem facts (X : K.In h) (G : h.Ns mainGlobals mg) (T : TabOk gcd tab L) (c : He.SaysD (faOf tab) (fnOf tab L) K) (hg : gcd = true → mg "gcd" = some (.builtin "math.gcd")) (hfa : mg ("law" : Str) = some (.ref f)) :
    ∃ fd : FuncData, (∀ (s : Shared) (v : Value), BindsTo s fd ⟨[v], []⟩ [("script", v)]) ∧ ∀ base : Heap, K.In base → base.Ns mainGlobals mg → FnOk Pg w K mg base CX0 (k + 1) f fd ["script"] (spLaw K tab L k) := by
  obtain ⟨fd, F⟩ := c.defs (d := dd L) (List.mem_append_right _ List.mem_cons_self)
  have F : FdD K L (He.fAd K (L.x, none)) fd := F
  have e := hfa.symm.trans (He.glo_ok X G (c.facts (List.mem_append_right _ List.mem_cons_self)))
  have e2 : f = He.fAd K (L.x, none) := by rw [T.x]; cases e; rfl
  subst e2
  have b := FunD.bindsA (ps := ["script"]) F (by have := T.b; unfold BindOk at this; rw [T.p] at this; exact this)
  exact ⟨fd, fun s v => b s [v] rfl, fun base _ _ => law_ok (mods_of X G T c hg) (fun d hd => (T.d d hd).1) T.l F⟩
end
end Zz
/-! ZRule: the evaluator's equations, as they are used to step through a text. -/
namespace Zz
open PySem
section
variable {P : Pr} {e : Env} {m m1 m2 : List D} {a b c : E} {as : List E}
/-- a mark: what it names is left alone by the simplifier -/
inductive Du {α : Type} (k : α) : Type | mk
/-- what comes next, given a value -/
def nxt {α β : Type} (r : Option (α × List D)) (k : α → List D → Option β) (_ : Du k := .mk) : Option β := match r with | some (x, m) => k x m | none => none
theorem nxt_some {α β : Type} {x : α} {k : α → List D → Option β} : nxt (some (x, m)) k = k x m := rfl
/-- a value that may be wrong -/
def got {α : Type} (r : Option α) (m : List D) : Option (α × List D) := match r with | some x => some (x, m) | none => none
theorem got_some {α : Type} {x : α} : got (some x) m = some (x, m) := rfl
def brB {α : Type} (r : Option Bool) (x y : Option α) (_ : Du (x, y) := .mk) : Option α := match r with | some true => x | some false => y | none => none
theorem brB_t {α : Type} {x y : Option α} : brB (some true) x y = x := rfl
theorem brB_f {α : Type} {x y : Option α} : brB (some false) x y = y := rfl
theorem brB_i {α : Type} {x y : Option α} {c : Bool} : brB (some c) x y = if c = true then x else y := by cases c <;> rfl
theorem x_var {i : Nat} : evE P (.var i) e m = got (getE e i) m := by simp only [evE]; all_goals (cases getE e i <;> rfl)
theorem x_lit {d : D} : evE P (.lit d) e m = some (d, m) := rfl
theorem x_op {o : Op} : evE P (.op o a b) e m = nxt (evE P a e m) fun x m1 => nxt (evE P b e m1) fun y m2 => got (opD o x y) m2 := by
  simp only [evE]
  rcases evE P a e m with _ | ⟨x, m1⟩
  · rfl
  · simp only [nxt]
    rcases evE P b e m1 with _ | ⟨y, m2⟩
    · rfl
    · simp only [got]
      all_goals (cases opD o x y <;> rfl)
def negD : D → Option D
  | .int i => some (.int (-i))
  | _ => none
theorem x_neg : evE P (.neg a) e m = nxt (evE P a e m) fun x m1 => got (negD x) m1 := by
  simp only [evE]
  rcases evE P a e m with _ | ⟨x, m1⟩
  · rfl
  · cases x <;> rfl
theorem x_cmp {os : List Cop} {bs : List E} : evE P (.cmp a os bs) e m = nxt (evE P a e m) fun x m1 => nxt (evCh P x os bs e m1) fun b m2 => some (.bl b, m2) := by
  simp only [evE]
  rcases evE P a e m with _ | ⟨x, m1⟩
  · rfl
  · simp only [nxt]
    all_goals (rcases evCh P x os bs e m1 with _ | ⟨b, m2⟩ <;> rfl)
theorem x_ch1 {x : D} {o : Cop} : evCh P x [o] [b] e m = nxt (evE P b e m) fun y m1 => got (cmpD o x y) m1 := by
  simp only [evCh]
  rcases evE P b e m with _ | ⟨y, m1⟩
  · rfl
  · simp only [nxt, got]
    all_goals (rcases cmpD o x y with _ | _ <;> rfl)
theorem x_ch2 {x : D} {o o2 : Cop} {b2 : E} {os : List Cop} {bs : List E} : evCh P x (o :: o2 :: os) (b :: b2 :: bs) e m = nxt (evE P b e m) fun y m1 => brB (cmpD o x y) (evCh P y (o2 :: os) (b2 :: bs) e m1) (some (false, m1)) := by
  simp only [evCh]
  rcases evE P b e m with _ | ⟨y, m1⟩
  · rfl
  · simp only [nxt, brB]
    all_goals (rcases cmpD o x y with _ | _ | _ <;> rfl)
/-- both are looked at, and keep the state -/
theorem brB_and {c d : Bool} : brB (some c) (some (d, m)) (some (false, m)) = some (c && d, m) := by cases c <;> rfl
theorem brB_andD {c d : Bool} : brB (some c) (some (D.bl d, m)) (some (D.bl c, m)) = some (.bl (c && d), m) := by cases c <;> rfl
theorem brB_orD {c d : Bool} : brB (some c) (some (D.bl c, m)) (some (D.bl d, m)) = some (.bl (c || d), m) := by cases c <;> rfl
theorem brB_int {c : Bool} {i j : Int} : brB (some c) (some (D.int i, m)) (some (D.int j, m)) = some (.int (if c = true then i else j), m) := by cases c <;> rfl
theorem brB_lst {c : Bool} {i j : List D} : brB (some c) (some (D.lst i, m)) (some (D.lst j, m)) = some (.lst (if c = true then i else j), m) := by cases c <;> rfl
theorem x_and1 : evE P (.and [a]) e m = evE P a e m := by simp only [evE, evAnd]
theorem x_and2 : evE P (.and (a :: b :: as)) e m = nxt (evE P a e m) fun x m1 => brB (truD P x) (evE P (.and (b :: as)) e m1) (some (x, m1)) := by
  simp only [evE, evAnd]
  rcases evE P a e m with _ | ⟨x, m1⟩
  · rfl
  · simp only [nxt, brB]
    all_goals (rcases truD P x with _ | _ | _ <;> rfl)
theorem x_or1 : evE P (.or [a]) e m = evE P a e m := by simp only [evE, evOr]
theorem x_or2 : evE P (.or (a :: b :: as)) e m = nxt (evE P a e m) fun x m1 => brB (truD P x) (some (x, m1)) (evE P (.or (b :: as)) e m1) := by
  simp only [evE, evOr]
  rcases evE P a e m with _ | ⟨x, m1⟩
  · rfl
  · simp only [nxt, brB]
    all_goals (rcases truD P x with _ | _ | _ <;> rfl)
theorem x_not : evE P (.not a) e m = nxt (evE P a e m) fun x m1 => nxt (got (truD P x) m1) fun b m1 => some (.bl (!b), m1) := by
  simp only [evE]
  rcases evE P a e m with _ | ⟨x, m1⟩
  · rfl
  · simp only [nxt, got]
    all_goals (rcases truD P x with _ | _ | _ <;> rfl)
theorem x_ite : evE P (.ite c a b) e m = nxt (evE P c e m) fun x m1 => brB (truD P x) (evE P a e m1) (evE P b e m1) := by
  simp only [evE]
  rcases evE P c e m with _ | ⟨x, m1⟩
  · rfl
  · simp only [nxt, brB]
    all_goals (rcases truD P x with _ | _ | _ <;> rfl)
def okL (b : Bool) (x : D) : Option D := if b = true then some x else none
theorem okL_t {x : D} : okL true x = some x := rfl
theorem x_tup : evE P (.tup as) e m = nxt (evEs P as e m) fun xs m1 => got (okL (lenOk xs.length) (.tup xs)) m1 := by
  simp only [evE]
  rcases evEs P as e m with _ | ⟨x, m1⟩
  · rfl
  · simp only [nxt, got, okL]
    split <;> rfl
theorem x_lst : evE P (.lst as) e m = nxt (evEs P as e m) fun xs m1 => got (okL (lenOk xs.length) (.lst xs)) m1 := by
  simp only [evE]
  rcases evEs P as e m with _ | ⟨x, m1⟩
  · rfl
  · simp only [nxt, got, okL]
    split <;> rfl
theorem x_nil : evEs P [] e m = some ([], m) := rfl
theorem x_cons : evEs P (a :: as) e m = nxt (evE P a e m) fun x m1 => nxt (evEs P as e m1) fun xs m2 => some (x :: xs, m2) := by
  simp only [evEs]
  rcases evE P a e m with _ | ⟨x, m1⟩
  · rfl
  · simp only [nxt]
    all_goals (rcases evEs P as e m1 with _ | ⟨y, m2⟩ <;> rfl)
theorem x_ix : evE P (.ix a b) e m = nxt (evE P a e m) fun x m1 => nxt (evE P b e m1) fun y m2 => got (ixD P m2 x y) m2 := by
  simp only [evE]
  rcases evE P a e m with _ | ⟨x, m1⟩
  · rfl
  · simp only [nxt]
    rcases evE P b e m1 with _ | ⟨y, m2⟩
    · rfl
    · simp only [got]
      all_goals (cases ixD P m2 x y <;> rfl)
theorem x_sl {lo hi : List E} : evE P (.sl a lo hi) e m = nxt (evE P a e m) fun x m1 => nxt (evEs P lo e m1) fun l m2 => nxt (evEs P hi e m2) fun h m3 => got (slD x l h) m3 := by
  simp only [evE]
  rcases evE P a e m with _ | ⟨x, m1⟩
  · rfl
  · simp only [nxt]
    rcases evEs P lo e m1 with _ | ⟨y, m2⟩
    · rfl
    · simp only
      rcases evEs P hi e m2 with _ | ⟨z, m3⟩
      · rfl
      · simp only [got]
        all_goals (cases slD x y z <;> rfl)
theorem x_bi {o : Bi} : evE P (.bi o as) e m = nxt (evEs P as e m) fun xs m1 => got (biD P o xs) m1 := by
  simp only [evE]
  rcases evEs P as e m with _ | ⟨x, m1⟩
  · rfl
  · simp only [nxt, got]
    all_goals (cases biD P o x <;> rfl)
theorem x_isi {ts : List Ty} : evE P (.isi ts a) e m = nxt (evE P a e m) fun x m1 => some (.bl (ts.any fun t => isT t x), m1) := by
  simp only [evE]
  all_goals (rcases evE P a e m with _ | ⟨x, m1⟩ <;> rfl)
theorem x_call {f : Nat} {sc : Bool} : evE P (.call f sc as) e m = nxt (evEs P as e m) fun xs m1 => P.call f xs m1 := by
  simp only [evE]
  all_goals (rcases evEs P as e m with _ | ⟨x, m1⟩ <;> rfl)
def kE {α : Type} (r : Option Env) (k : Env → Option α) (_ : Du k := .mk) : Option α := match r with | some e => k e | none => none
theorem kE_some {α : Type} {k : Env → Option α} : kE (some e) k = k e := rfl
/-- a turn of a comprehension -/
def lcF (P : Pr) (own : List Nat) (t : T) (ifs : List E) (x : E) (e : Env) (d : D) (m : List D) : Option (List D × List D) :=
  kE (asgT t d (wipeE e own)) fun e1 => nxt (evIfs P ifs e1 m) fun b m2 => if b = true then nxt (evE P x e1 m2) fun y m3 => some ([y], m3) else some ([], m2)
theorem l_f {own : List Nat} {t : T} {ifs : List E} {x : E} {d : D} : lcF P own t ifs x e d m = kE (asgT t d (wipeE e own)) fun e1 => nxt (evIfs P ifs e1 m) fun b m2 => if b = true then nxt (evE P x e1 m2) fun y m3 => some ([y], m3) else some ([], m2) := rfl
theorem l_n {f : D → List D → Option (List D × List D)} : lcGo f [] m = some ([], m) := rfl
theorem l_c {f : D → List D → Option (List D × List D)} {x : D} {xs : List D} : lcGo f (x :: xs) m = nxt (f x m) fun ys m1 => nxt (lcGo f xs m1) fun zs m2 => some (ys ++ zs, m2) := by
  simp only [lcGo]
  rcases f x m with _ | ⟨ys, m1⟩
  · rfl
  · simp only [nxt]
    all_goals (rcases lcGo f xs m1 with _ | ⟨zs, m2⟩ <;> rfl)
/-- each item gives one value, or none -/
theorem l_all {f : D → List D → Option (List D × List D)} {p : D → Bool} {g : D → D} : ∀ {xs : List D}, (∀ x, x ∈ xs → f x m = some (if p x = true then [g x] else [], m)) → lcGo f xs m = some ((xs.filter p).map g, m)
  | [], _ => rfl
  | x :: xs, h => by
    rw [l_c, h x List.mem_cons_self, nxt_some, l_all fun y hy => h y (List.mem_cons_of_mem _ hy), nxt_some, List.filter_cons]
    all_goals (cases p x <;> rfl)
theorem l_map {f : D → List D → Option (List D × List D)} {g : D → D} : ∀ {xs : List D}, (∀ x, x ∈ xs → f x m = some ([g x], m)) → lcGo f xs m = some (xs.map g, m)
  | [], _ => rfl
  | x :: xs, h => by
    rw [l_c, h x List.mem_cons_self, nxt_some, l_map fun y hy => h y (List.mem_cons_of_mem _ hy), nxt_some]
    rfl
theorem x_comp {own : List Nat} {t : T} {ifs : List E} {x : E} : evE P (.comp own t a ifs x) e m = nxt (evE P a e m) fun d m1 => nxt (got (itemsD P d) m1) fun xs m1 => nxt (lcGo (lcF P own t ifs x e) xs m1) fun ys m2 => got (okL (lenOk ys.length) (.lst ys)) m2 := by
  simp only [evE]
  rcases evE P a e m with _ | ⟨d, m1⟩
  · rfl
  · simp only [nxt, got]
    cases itemsD P d with
    | none => rfl
    | some xs =>
      simp only
      rw [show lcGo _ xs m1 = lcGo (lcF P own t ifs x e) xs m1 from by
        congr 1
        funext d m
        unfold lcF kE
        cases asgT t d (wipeE e own) with
        | none => rfl
        | some e1 =>
          simp only [nxt]
          rcases evIfs P ifs e1 m with _ | ⟨_ | _, m2⟩
          · rfl
          · rfl
          · simp only
            rcases evE P x e1 m2 with _ | ⟨y, m3⟩ <;> rfl]
      rcases lcGo (lcF P own t ifs x e) xs m1 with _ | ⟨ys, m2⟩
      · rfl
      · simp only [okL]
        split <;> rfl
theorem x_ifs0 : evIfs P [] e m = some (true, m) := rfl
theorem x_ifs1 : evIfs P [a] e m = nxt (evE P a e m) fun x m1 => got (truD P x) m1 := by
  simp only [evIfs]
  rcases evE P a e m with _ | ⟨x, m1⟩
  · rfl
  · simp only [nxt, got]
    all_goals (rcases truD P x with _ | _ | _ <;> rfl)

/-! ### statements -/
theorem s_nil : evSs P [] e m = some (.nx e m) := rfl
/-- what comes behind a statement -/
def thn (r : Option R) (k : Env → List D → Option R) (_ : Du k := .mk) : Option R := match r with | some (.nx e m) => k e m | r => r
theorem thn_nx {k : Env → List D → Option R} : thn (some (.nx e m)) k = k e m := rfl
theorem thn_rt {d : D} {k : Env → List D → Option R} : thn (some (.rt d m)) k = some (.rt d m) := rfl
theorem s_cons {s : S} {ss : List S} : evSs P (s :: ss) e m = thn (evS P s e m) fun e1 m1 => evSs P ss e1 m1 := by
  simp only [evSs]
  all_goals (rcases evS P s e m with _ | ⟨_ | _⟩ <;> rfl)
def nxE (r : Option Env) (m : List D) : Option R := match r with | some e => some (.nx e m) | none => none
theorem nxE_some : nxE (some e) m = some (.nx e m) := rfl
theorem s_asg {t : T} : evS P (.asg t a) e m = nxt (evE P a e m) fun x m1 => nxE (asgT t x e) m1 := by
  simp only [evS]
  rcases evE P a e m with _ | ⟨x, m1⟩
  · rfl
  · simp only [nxt, nxE]
    all_goals (cases asgT t x e <;> rfl)
theorem s_ifs {x y : List S} : evS P (.ifs c x y) e m = nxt (evE P c e m) fun d m1 => brB (truD P d) (evSs P x e m1) (evSs P y e m1) := by
  simp only [evS, evC]
  rcases evE P c e m with _ | ⟨d, m1⟩
  · rfl
  · simp only [nxt, brB]
    all_goals (rcases truD P d with _ | _ | _ <;> rfl)
theorem s_ret : evS P (.ret a) e m = nxt (evE P a e m) fun x m1 => some (.rt x m1) := by
  simp only [evS]
  all_goals (rcases evE P a e m with _ | ⟨x, m1⟩ <;> rfl)
def wb (P : Pr) (b : List S) : Env → List D → Option R := fun e m => evSs P b e m
theorem wb_s {b : List S} : wb P b e m = evSs P b e m := rfl
theorem s_whl {x : List S} : evS P (.whl c x) e m = whGo (evC P c) (wb P x) P.W e m := by simp only [evS]; rfl
def fr1 (P : Pr) (t : T) (b : List S) (x : D) (e : Env) (m : List D) : Option R := match asgT t x e with | some e1 => evSs P b e1 m | none => none
theorem s_for {t : T} {x : List S} : evS P (.for_ t a x) e m = nxt (evE P a e m) fun d m1 => nxt (got (itemsD P d) m1) fun xs m1 => forGo (fr1 P t x) xs e m1 := by
  simp only [evS]
  rcases evE P a e m with _ | ⟨d, m1⟩
  · rfl
  · simp only [nxt, got]
    all_goals (cases itemsD P d <;> rfl)
def setE (e : Env) (i : Nat) (d : D) : Option Env := if i < e.length then some (e.set i (some d)) else none
def appE (x : Nat) (v : D) (e : Env) : Option Env := match getE e x with
  | some (.lst xs) => if decide (xs.length < 16777216) = true then setE e x (.lst (xs ++ [v])) else none
  | _ => none
theorem s_app {x : Nat} : evS P (.app x a) e m = nxt (evE P a e m) fun v m1 => nxE (appE x v e) m1 := by
  simp only [evS]
  rcases evE P a e m with _ | ⟨v, m1⟩
  · rfl
  · simp only [nxt, nxE, appE]
    cases hg : getE e x with
    | none => rfl
    | some d =>
      cases d with
      | lst xs =>
        have hx : x < e.length := by
          unfold getE at hg
          split at hg
          · rename_i q; exact (List.getElem?_eq_some_iff.mp q).1
          · cases hg
        simp only [setE, if_pos hx]
        split <;> rfl
      | _ => rfl
theorem e_app {x : Nat} {v : D} {xs : List D} (h : getE e x = some (.lst xs)) (hl : xs.length < 16777216) : appE x v e = setE e x (.lst (xs ++ [v])) := by
  unfold appE
  rw [h]
  simp [hl]
theorem c_ev : evC P c e m = nxt (evE P c e m) fun x m1 => got (truD P x) m1 := by
  unfold evC
  rcases evE P c e m with _ | ⟨x, m1⟩
  · rfl
  · simp only [nxt, got]
    all_goals (cases truD P x <;> rfl)

/-! ### values -/
theorem ite_some {α : Type} {c : Bool} {x y : α} : (if c = true then some (x, m) else some (y, m)) = some (if c = true then x else y, m) := by cases c <;> rfl
theorem ite_bl {c p q : Bool} : (if c = true then D.bl p else D.bl q) = D.bl (if c = true then p else q) := by cases c <;> rfl
theorem ite_int {c : Bool} {p q : Int} : (if c = true then D.int p else D.int q) = D.int (if c = true then p else q) := by cases c <;> rfl
theorem ite_lst {c : Bool} {p q : List D} : (if c = true then D.lst p else D.lst q) = D.lst (if c = true then p else q) := by cases c <;> rfl
theorem ite_and {c p : Bool} : (if c = true then p else false) = (c && p) := by cases c <;> rfl
theorem ite_and' {c p : Bool} : (if c = true then p else c) = (c && p) := by cases c <;> rfl
theorem ite_or {c p : Bool} : (if c = true then true else p) = (c || p) := by cases c <;> rfl
theorem ite_or' {c p : Bool} : (if c = true then c else p) = (c || p) := by cases c <;> rfl
theorem g_0 {d : D} : getE (some d :: e) 0 = some d := rfl
theorem g_s {o : Option D} {i : Nat} : getE (o :: e) (i + 1) = getE e i := rfl
theorem p_0 {o : Option D} {d : D} : setE (o :: e) 0 d = some (some d :: e) := rfl
def consE (o : Option D) (r : Option Env) : Option Env := match r with | some e => some (o :: e) | none => none
theorem p_s {o : Option D} {d : D} {i : Nat} : setE (o :: e) (i + 1) d = consE o (setE e i d) := by
  unfold setE consE
  simp only [List.length_cons, Nat.add_lt_add_iff_right, List.set_cons_succ]
  split <;> rfl
theorem p_c {o : Option D} : consE o (some e) = some (o :: e) := rfl
theorem a_var {i : Nat} {d : D} : asgT (.var i) d e = setE e i d := rfl
theorem a_tt {ts : List T} {xs : List D} : asgT (.tup ts) (.tup xs) e = asgTs ts xs e := rfl
theorem a_tl {ts : List T} {xs : List D} : asgT (.tup ts) (.lst xs) e = asgTs ts xs e := rfl
theorem a_n : asgTs [] [] e = some e := rfl
def thE (r : Option Env) (k : Env → Option Env) (_ : Du k := .mk) : Option Env := match r with | some e => k e | none => none
theorem thE_some {k : Env → Option Env} : thE (some e) k = k e := rfl
theorem a_c {t : T} {ts : List T} {x : D} {xs : List D} : asgTs (t :: ts) (x :: xs) e = thE (asgT t x e) fun e1 => asgTs ts xs e1 := by simp only [asgTs, thE]; all_goals (cases asgT t x e <;> rfl)
theorem w_n : wipeE e [] = e := rfl
def unE (e : Env) (i : Nat) : Env := e.set i none
theorem w_c {i : Nat} {is : List Nat} : wipeE e (i :: is) = unE (wipeE e is) i := rfl
theorem u_0 {o : Option D} : unE (o :: e) 0 = none :: e := rfl
theorem u_s {o : Option D} {i : Nat} : unE (o :: e) (i + 1) = o :: unE e i := rfl
theorem o_addi {i j : Int} : opD .add (.int i) (.int j) = some (.int (i + j)) := rfl
theorem o_subi {i j : Int} : opD .sub (.int i) (.int j) = some (.int (i - j)) := rfl
theorem o_muli {i j : Int} : opD .mul (.int i) (.int j) = okL (mulOk i j) (.int (i * j)) := rfl
theorem o_divi {i j : Int} : opD .fdiv (.int i) (.int j) = okL (divOk j) (.int (divI i j)) := rfl
theorem o_modi {i j : Int} : opD .mod (.int i) (.int j) = okL (decide (j ≠ 0)) (.int (modI i j)) := by
  by_cases h : j = 0
  · subst h; rfl
  · simp [opD, okL, h]
theorem o_addl {xs ys : List D} : opD .add (.lst xs) (.lst ys) = okL (lenOk (xs.length + ys.length)) (.lst (xs ++ ys)) := rfl
theorem o_addt {xs ys : List D} : opD .add (.tup xs) (.tup ys) = okL (lenOk (xs.length + ys.length)) (.tup (xs ++ ys)) := rfl
theorem n_int {i : Int} : negD (.int i) = some (.int (-i)) := rfl
theorem c_lt {i j : Int} : cmpD .lt (.int i) (.int j) = some (decide (i < j)) := rfl
theorem c_le {i j : Int} : cmpD .le (.int i) (.int j) = some (decide (i ≤ j)) := rfl
theorem c_gt {i j : Int} : cmpD .gt (.int i) (.int j) = some (decide (j < i)) := rfl
theorem c_ge {i j : Int} : cmpD .ge (.int i) (.int j) = some (decide (j ≤ i)) := rfl
theorem c_eq {i j : Int} : cmpD .eq (.int i) (.int j) = some (i == j) := rfl
theorem c_ne {i j : Int} : cmpD .ne (.int i) (.int j) = some (!(i == j)) := rfl
theorem c_is {x : D} : cmpD .is x .non = some (isN x) := by cases x <;> rfl
theorem c_isn {x : D} : cmpD .isn x .non = some (!isN x) := by cases x <;> rfl
theorem t_bl {b : Bool} : truD P (.bl b) = some b := rfl
theorem t_int {i : Int} : truD P (.int i) = some (i != 0) := rfl
theorem t_lst {xs : List D} : truD P (.lst xs) = some (!xs.isEmpty) := rfl
theorem i_lst {xs : List D} {i : Int} : ixD P m (.lst xs) (.int i) = at_ xs i := rfl
theorem i_tup {xs : List D} {i : Int} : ixD P m (.tup xs) (.int i) = at_ xs i := rfl
theorem i_st {i : Int} : ixD P m .st (.int i) = at_ m i := rfl
theorem v_lst {xs : List D} : itemsD P (.lst xs) = some xs := rfl
theorem v_tup {xs : List D} : itemsD P (.tup xs) = some xs := rfl
theorem v_scr : itemsD P .scr = some (P.ns.map D.int) := rfl
theorem f_len {xs : List D} : biD P .len [.lst xs] = some (.int xs.length) := rfl
theorem f_lent {xs : List D} : biD P .len [.tup xs] = some (.int xs.length) := rfl
theorem f_lens : biD P .len [.scr] = some (.int P.ns.length) := by simp [biD, itemsD]
theorem f_abs {i : Int} : biD P .abs [.int i] = some (.int (if i < 0 then -i else i)) := rfl
theorem f_int {i : Int} : biD P .int1 [.int i] = some (.int i) := rfl
theorem f_intb {b : Bool} : biD P .int1 [.bl b] = some (.int (if b = true then 1 else 0)) := rfl
theorem f_max {i j : Int} : biD P .max2 [.int i, .int j] = some (.int (if j > i then j else i)) := rfl
theorem f_min {i j : Int} : biD P .min2 [.int i, .int j] = some (.int (if j < i then j else i)) := rfl
theorem f_gcd {i j : Int} : biD P .gcd [.int i, .int j] = some (.int (Nat.gcd i.natAbs j.natAbs)) := rfl
theorem f_list {xs : List D} : biD P .list [.lst xs] = some (.lst xs) := rfl
theorem f_listt {xs : List D} : biD P .list [.tup xs] = some (.lst xs) := rfl
theorem f_tup {xs : List D} : biD P .tuple [.lst xs] = some (.tup xs) := rfl
theorem f_rng1 {j : Int} : biD P .range [.int j] = okL (ok62 j && lenOk j.toNat) (.lst (rangeD 0 j.toNat)) := rfl
theorem f_rng2 {i j : Int} : biD P .range [.int i, .int j] = okL (ok62 i && ok62 j && lenOk (j - i).toNat) (.lst (rangeD i (j - i).toNat)) := rfl
theorem f_enl {xs : List D} : biD P .enum [.lst xs] = some (.lst (enumD 0 xs)) := rfl
theorem f_rvl {xs : List D} : biD P .rev [.lst xs] = some (.lst xs.reverse) := rfl
def sumD (xs : List D) : Option D := match intsD xs with | some is => some (.int is.sum) | none => none
theorem f_sum {xs : List D} : biD P .sum [.lst xs] = sumD xs := by simp only [biD, sumD]; all_goals (cases intsD xs <;> rfl)
def srtD (xs : List D) : Option D := match intsD xs with | some is => some (.lst ((sortI is).map D.int)) | none => none
theorem f_srt {xs : List D} : biD P .sorted [.lst xs] = srtD xs := by simp only [biD, srtD]; all_goals (cases intsD xs <;> rfl)
def lsetD (xs : List D) : Option D := match intsD xs with | some is => okL (decide (is.length ≤ 4000)) (.int (ddI is).length) | none => none
theorem f_lset {xs : List D} : biD P .lenset [.lst xs] = lsetD xs := by
  simp only [biD, lsetD]
  cases intsD xs with
  | none => rfl
  | some is => rfl
def allD (xs : List D) : Option D := match boolsD xs with | some bs => some (.bl (bs.all id)) | none => none
theorem f_all {xs : List D} : biD P .all [.lst xs] = allD xs := by simp only [biD, allD]; all_goals (cases boolsD xs <;> rfl)
theorem ints_map : ∀ is : List Int, intsD (is.map D.int) = some is
  | [] => rfl
  | i :: r => by rw [List.map_cons]; simp only [intsD, ints_map r]
end
end Zz
/-! ZPl: plain lemmas about the evaluator's pieces. -/
namespace Zz
open PySem
section
variable {P : Pr} {e : Env} {m m1 m2 : List D}
def rng (lo : Int) : Nat → List Int
  | 0 => []
  | n + 1 => lo :: rng (lo + 1) n
theorem rng_map : ∀ (lo : Int) (n : Nat), rangeD lo n = (rng lo n).map D.int
  | _, 0 => rfl
  | lo, n + 1 => by rw [rangeD, rng, List.map_cons, rng_map (lo + 1) n]
theorem mem_rng {x : Int} : ∀ {n : Nat} {lo : Int}, x ∈ rng lo n ↔ lo ≤ x ∧ x < lo + n
  | 0, lo => by simp only [rng, List.not_mem_nil, false_iff]; omega
  | n + 1, lo => by rw [rng, List.mem_cons, mem_rng]; omega
theorem len_rng : ∀ (n : Nat) (lo : Int), (rng lo n).length = n
  | 0, _ => rfl
  | n + 1, lo => by rw [rng, List.length_cons, len_rng n]
theorem get_rng : ∀ {n i : Nat} {lo : Int}, i < n → (rng lo n)[i]? = some (lo + i)
  | 0, _, _, h => absurd h (Nat.not_lt_zero _)
  | n + 1, 0, lo, _ => by simp [rng]
  | n + 1, i + 1, lo, h => by
    rw [rng, List.getElem?_cons_succ, get_rng (Nat.lt_of_succ_lt_succ h)]
    congr 1; omega
theorem at_get {xs : List D} {i : Int} (h0 : 0 ≤ i) (h1 : i < xs.length) : at_ xs i = xs[i.toNat]? := by
  unfold at_ ixI
  rw [if_pos h0, if_pos (by omega)]
  rfl
theorem at_rng {f : Int → D} {n : Nat} {i : Int} (h0 : 0 ≤ i) (h1 : i < n) : at_ ((rng 0 n).map f) i = some (f i) := by
  rw [at_get h0 (by rw [List.length_map, len_rng]; omega), List.getElem?_map, get_rng (by omega)]
  simp only [Option.map_some]
  congr 2; omega
theorem fg_nil {f : D → Env → List D → Option R} : forGo f [] e m = some (.nx e m) := rfl
theorem fg_cons {f : D → Env → List D → Option R} {x : D} {xs : List D} : forGo f (x :: xs) e m = thn (f x e m) fun e1 m1 => forGo f xs e1 m1 := by
  simp only [forGo]
  all_goals (rcases f x e m with _ | ⟨_ | _⟩ <;> rfl)
theorem fr_1 {t : T} {b : List S} {x : D} : fr1 P t b x e m = kE (asgT t x e) fun e1 => evSs P b e1 m := by
  unfold fr1 kE; cases asgT t x e <;> rfl
theorem wh_s {c : Env → List D → Option (Bool × List D)} {f : Env → List D → Option R} {n : Nat} : whGo c f (n + 1) e m = nxt (c e m) fun b m1 => if b = true then thn (f e m1) fun e1 m2 => whGo c f n e1 m2 else some (.nx e m1) := by
  simp only [whGo]
  rcases c e m with _ | ⟨_ | _, m1⟩
  · rfl
  · rfl
  · simp only [nxt, if_true]
    all_goals (rcases f e m1 with _ | ⟨_ | _⟩ <;> rfl)
theorem f_rngS {j : Int} (h0 : 0 ≤ j) (h : j ≤ 100000) : biD P .range [.int j] = some (.lst ((rng 0 j.toNat).map D.int)) := by
  rw [f_rng1, rng_map]
  have : (ok62 j && lenOk j.toNat) = true := by simp only [ok62, lenOk, Bool.and_eq_true, decide_eq_true_eq]; omega
  rw [this]; rfl
theorem f_rngS2 {i j : Int} (h0 : 0 ≤ i) (h : j ≤ 100000) (h1 : 0 ≤ j) (h2 : i ≤ 100000) : biD P .range [.int i, .int j] = some (.lst ((rng i (j - i).toNat).map D.int)) := by
  rw [f_rng2, rng_map]
  have : (ok62 i && ok62 j && lenOk (j - i).toNat) = true := by simp only [ok62, lenOk, Bool.and_eq_true, decide_eq_true_eq]; omega
  rw [this]; rfl
theorem l_mapI {f : D → List D → Option (List D × List D)} {g : Int → D} : ∀ {is : List Int}, (∀ i, i ∈ is → f (.int i) m = some ([g i], m)) → lcGo f (is.map D.int) m = some (is.map g, m)
  | [], _ => rfl
  | x :: xs, h => by
    rw [List.map_cons, l_c, h x List.mem_cons_self, nxt_some, l_mapI fun y hy => h y (List.mem_cons_of_mem _ hy), nxt_some]
    rfl
theorem l_allI {f : D → List D → Option (List D × List D)} {p : Int → Bool} {g : Int → D} : ∀ {is : List Int}, (∀ i, i ∈ is → f (.int i) m = some (if p i = true then [g i] else [], m)) → lcGo f (is.map D.int) m = some ((is.filter p).map g, m)
  | [], _ => rfl
  | x :: xs, h => by
    rw [List.map_cons, l_c, h x List.mem_cons_self, nxt_some, l_allI fun y hy => h y (List.mem_cons_of_mem _ hy), nxt_some, List.filter_cons]
    all_goals (cases p x <;> rfl)
theorem lenOk_le {n : Nat} (h : n ≤ 100000) : lenOk n = true := by simp only [lenOk, decide_eq_true_eq]; omega
theorem at_last {r : List Int} (h : r ≠ []) : at_ (r.map D.int) ((r.length : Int) - 1) = some (.int (r.getLastD 0)) := by
  have hl : 0 < r.length := by cases r with | nil => exact absurd rfl h | cons _ _ => simp
  rw [at_get (by omega) (by rw [List.length_map]; omega), List.getElem?_map]
  have : ((r.length : Int) - 1).toNat = r.length - 1 := by omega
  rw [this, ← List.getLast?_eq_getElem?]
  cases r with
  | nil => exact absurd rfl h
  | cons a l => simp [List.getLast?_cons, List.getLastD_cons]
theorem at_0 {x : D} {xs : List D} : at_ (x :: xs) 0 = some x := by
  rw [at_get (by omega) (by first | (simp; done) | (simp; omega))]; rfl
theorem at_1 {x y : D} {xs : List D} : at_ (x :: y :: xs) 1 = some y := by
  rw [at_get (by omega) (by first | (simp; done) | (simp; omega))]; rfl
theorem mulOk_s {i j : Int} (h : i.natAbs < 18446744073709551616) : mulOk i j = true := by simp [mulOk, small64, h]
theorem mulOk_r {i j : Int} (h : j.natAbs < 18446744073709551616) : mulOk i j = true := by simp [mulOk, small64, h]
theorem l_allF {α : Type} {f : D → List D → Option (List D × List D)} {h : α → D} {p : α → Bool} {g : α → D} : ∀ {is : List α}, (∀ i, i ∈ is → f (h i) m = some (if p i = true then [g i] else [], m)) → lcGo f (is.map h) m = some ((is.filter p).map g, m)
  | [], _ => rfl
  | x :: xs, q => by
    rw [List.map_cons, l_c, q x List.mem_cons_self, nxt_some, l_allF fun y hy => q y (List.mem_cons_of_mem _ hy), nxt_some, List.filter_cons]
    all_goals (cases p x <;> rfl)
theorem enum_rng {f : Int → D} : ∀ {n : Nat} {lo : Int}, enumD lo ((rng lo n).map f) = (rng lo n).map fun i => .tup [.int i, f i]
  | 0, _ => rfl
  | n + 1, lo => by rw [rng, List.map_cons, List.map_cons, enumD, enum_rng]
theorem take_rng : ∀ {n k : Nat} {lo : Int}, k ≤ n → (rng lo n).take k = rng lo k
  | n, 0, _, _ => by simp [rng]
  | 0, k + 1, _, h => by omega
  | n + 1, k + 1, lo, h => by rw [rng, rng, List.take_succ_cons, take_rng (by omega)]
theorem sl_rng {f : Int → D} {n : Nat} {i : Int} (h0 : 0 ≤ i) (h1 : i ≤ n) : slD (.lst ((rng 0 n).map f)) [] [.int i] = some (.lst ((rng 0 i.toNat).map f)) := by
  simp only [slD, partD, cut, cutIx, if_pos h0, List.length_map, len_rng, List.drop_zero, Nat.sub_zero]
  rw [Nat.min_eq_left (by omega), ← List.map_take, take_rng (by omega)]
theorem toPys_ints : ∀ is : List Int, toPys (is.map D.int) = some (is.map PyData.int)
  | [] => rfl
  | i :: r => by rw [List.map_cons, List.map_cons, toPys, toPys_ints r]; rfl
theorem depth_ints : ∀ is : List Int, PyData.depthAll (is.map PyData.int) ≤ 1
  | [] => by simp [PyData.depthAll]
  | i :: r => by
    have := depth_ints r
    simp only [List.map_cons, PyData.depthAll, PyData.depth]
    omega
theorem lay_ints : ∀ is : List Int, PyData.canLayAll0 (is.map PyData.int) = true
  | [] => by simp [PyData.canLayAll0]
  | i :: r => by simp [PyData.canLayAll0, PyData.canLay0, lay_ints r]
theorem shp_ints (is : List Int) : shp (.list (is.map PyData.int)) = true := by
  have h1 := depth_ints is
  have h2 : PyData.depth (.list (is.map PyData.int)) = PyData.depthAll (is.map PyData.int) + 1 := by simp only [PyData.depth]
  have h3 : PyData.canLay0 (.list (is.map PyData.int)) = true := by simp only [PyData.canLay0, lay_ints]
  unfold shp
  rw [h2, h3, Bool.true_and, decide_eq_true_eq]
  omega
theorem mem_ints {x : Int} {is : List Int} : memD (.int x) (.lst (is.map D.int)) = some (decide (x ∈ is)) := by
  simp only [memD, toPy, toPys_ints, shp_ints]
  have h : shp (.int x) = true := by simp [shp, PyData.canLay0, PyData.depth]
  rw [h]
  simp only [Bool.and_self, if_true]
  congr 1
  induction is with
  | nil => rfl
  | cons i r ih =>
    rw [List.map_cons, List.any_cons, ih]
    by_cases e : x = i
    · subst e; simp [PyData.eqv]
    · have : (PyData.int i).eqv (.int x) = false := by simp [PyData.eqv]; exact fun h => e h.symm
      simp [this, e]
theorem c_nmem {a b : D} : cmpD .nmem a b = (memD a b).map (!·) := rfl
theorem c_mem {a b : D} : cmpD .mem a b = memD a b := rfl
def fnEnd (r : Option R) : Option (D × List D) := match r with | some (.rt d m) => some (d, m) | some (.nx _ m) => some (.non, m) | none => none
theorem fe_rt {d : D} : fnEnd (some (.rt d m)) = some (d, m) := rfl
theorem ck_s {fns : List Fn} {ns : List Int} {W k i : Nat} {xs : List D} {f : Fn} (h : fns[i]? = some f) (hl : xs.length = f.np) : callK fns ns W (k + 1) i xs m =
    fnEnd (evSs ⟨ns, W, callK fns ns W k⟩ f.body (xs.map some ++ List.replicate (f.nn - xs.length) none) m) := by
  simp only [callK, h, runF, if_pos hl, fnEnd]
  all_goals (rcases evSs ⟨ns, W, callK fns ns W k⟩ f.body (xs.map some ++ List.replicate (f.nn - xs.length) none) m with _ | ⟨_ | _⟩ <;> rfl)
end
end Zz
/-! ZW: from the evaluator to typed functions that may fail. -/
namespace Zz
open PySem
/-! ### typed values -/
section
variable {α β γ δ ε ζ : Type}
def eU : Unit → D := fun _ => .tup []
def eT1 (ea : α → D) : α → D := fun p => .tup [ea p]
def eP (ea : α → D) (eb : β → D) : α × β → D := fun p => .tup [ea p.1, eb p.2]
def eT3 (ea : α → D) (eb : β → D) (ec : γ → D) : α × β × γ → D := fun p => .tup [ea p.1, eb p.2.1, ec p.2.2]
def eT4 (ea : α → D) (eb : β → D) (ec : γ → D) (ed : δ → D) : α × β × γ × δ → D := fun p => .tup [ea p.1, eb p.2.1, ec p.2.2.1, ed p.2.2.2]
def eT5 (ea : α → D) (eb : β → D) (ec : γ → D) (ed : δ → D) (ee : ε → D) : α × β × γ × δ × ε → D := fun p => .tup [ea p.1, eb p.2.1, ec p.2.2.1, ed p.2.2.2.1, ee p.2.2.2.2]
def eT6 (ea : α → D) (eb : β → D) (ec : γ → D) (ed : δ → D) (ee : ε → D) (ef : ζ → D) : α × β × γ × δ × ε × ζ → D := fun p => .tup [ea p.1, eb p.2.1, ec p.2.2.1, ed p.2.2.2.1, ee p.2.2.2.2.1, ef p.2.2.2.2.2]
def eL (ea : α → D) : List α → D := fun l => .lst (l.map ea)
def eV (ea : α → D) : List α → D := fun l => .tup (l.map ea)
def eO (ea : α → D) : Option α → D := fun o => match o with | none => .non | some x => ea x
def eN : Unit → D := fun _ => .non
def eH1 (ea : α → D) : α → D := fun p => .lst [ea p]
def eH2 (ea : α → D) (eb : β → D) : α × β → D := fun p => .lst [ea p.1, eb p.2]
def eH3 (ea : α → D) (eb : β → D) (ec : γ → D) : α × β × γ → D := fun p => .lst [ea p.1, eb p.2.1, ec p.2.2]
def eH4 (ea : α → D) (eb : β → D) (ec : γ → D) (ed : δ → D) : α × β × γ × δ → D := fun p => .lst [ea p.1, eb p.2.1, ec p.2.2.1, ed p.2.2.2]
def eH5 (ea : α → D) (eb : β → D) (ec : γ → D) (ed : δ → D) (ee : ε → D) : α × β × γ × δ × ε → D := fun p => .lst [ea p.1, eb p.2.1, ec p.2.2.1, ed p.2.2.2.1, ee p.2.2.2.2]
def eH6 (ea : α → D) (eb : β → D) (ec : γ → D) (ed : δ → D) (ee : ε → D) (ef : ζ → D) : α × β × γ × δ × ε × ζ → D := fun p => .lst [ea p.1, eb p.2.1, ec p.2.2.1, ed p.2.2.2.1, ee p.2.2.2.2.1, ef p.2.2.2.2.2]
/-- the draws' state -/
abbrev Sta := Int × Int
def eS (s : Sta) : List D := [.int s.1, .int s.2]
end
/-! ### binding -/
section
variable {α β ρ σ : Type}
def ob (x : Option α) (f : α → Option β) : Option β := match x with | some y => f y | none => none
theorem ob_some {x : α} {f : α → Option β} : ob (some x) f = f x := rfl
theorem ob_inv {x : Option α} {f : α → Option β} {r : β} (h : ob x f = some r) : ∃ y, x = some y ∧ f y = some r := by
  cases x with
  | none => cases h
  | some y => exact ⟨y, rfl, h⟩
theorem ob_of {x : Option α} {f : α → Option β} {r : β} {y : α} (h : x = some y) (k : f y = some r) : ob x f = some r := by rw [h]; exact k
theorem cnT {c : Bool} {A B : Option α} {r : α} (hc : c = true) (h : cond c A B = some r) : A = some r := by subst hc; exact h
theorem cnF {c : Bool} {A B : Option α} {r : α} (hc : c = false) (h : cond c A B = some r) : B = some r := by subst hc; exact h
def mpO (f : α → Option β) : List α → Option (List β)
  | [] => some []
  | x :: xs => ob (f x) fun y => ob (mpO f xs) fun ys => some (y :: ys)
/-- with a test -/
def flO (c : α → Option Bool) (f : α → Option β) : List α → Option (List β)
  | [] => some []
  | x :: xs => ob (c x) fun b => cond b (ob (f x) fun y => ob (flO c f xs) fun ys => some (y :: ys)) (flO c f xs)
/-- with the draws' state -/
def mpS (f : α → Sta → Option (β × Sta)) : List α → Sta → Option (List β × Sta)
  | [], s => some ([], s)
  | x :: xs, s => ob (f x s) fun p => ob (mpS f xs p.2) fun q => some (p.1 :: q.1, q.2)
def forO (f : σ → α → Option σ) : List α → σ → Option σ
  | [], s => some s
  | x :: xs, s => ob (f s x) fun s1 => forO f xs s1
def forR (f : σ → α → Option (ρ ⊕ σ)) : List α → σ → Option (ρ ⊕ σ)
  | [], s => some (.inr s)
  | x :: xs, s => ob (f s x) fun r => match r with | .inl v => some (.inl v) | .inr s1 => forR f xs s1
def whO (c : σ → Option Bool) (f : σ → Option σ) : Nat → σ → Option σ
  | 0, _ => none
  | n + 1, s => ob (c s) fun b => cond b (ob (f s) fun s1 => whO c f n s1) (some s)
def whR (c : σ → Option Bool) (f : σ → Option (ρ ⊕ σ)) : Nat → σ → Option (ρ ⊕ σ)
  | 0, _ => none
  | n + 1, s => ob (c s) fun b => cond b (ob (f s) fun r => match r with | .inl v => some (.inl v) | .inr s1 => whR c f n s1) (some (.inr s))
def omul (i j : Int) : Option Int := if mulOk i j then some (i * j) else none
def odiv (i j : Int) : Option Int := if divOk j then some (divI i j) else none
def omod (i j : Int) : Option Int := if decide (j ≠ 0) then some (modI i j) else none
def opow (i j : Int) : Option Int := if powOk i j then some (i ^ j.toNat) else none
def oget (xs : List α) (i : Int) : Option α := (ixI xs.length i).bind fun j => xs[j]?
def oset (xs : List α) (i : Int) (v : α) : Option (List α) := (ixI xs.length i).map fun j => xs.set j v
def olen (xs : List α) : Option (List α) := if lenOk xs.length then some xs else none
def orep (xs : List α) (k : Int) : Option (List α) := if decide (-9223372036854775808 ≤ k) && decide (k < 9223372036854775808) && lenOk (xs.length * k.toNat) then some (List.replicate k.toNat xs).flatten else none
def oapp (xs : List α) (v : α) : Option (List α) := if decide (xs.length < 16777216) then some (xs ++ [v]) else none
def opop (xs : List α) : Option (List α) := if xs.isEmpty then none else some xs.dropLast
def memT [DecidableEq α] (x : α) (xs : List α) : Bool := xs.any fun z => decide (z = x)
def orem [DecidableEq α] (xs : List α) (v : α) : Option (List α) := match xs.findIdx? (fun z => decide (z = v)) with | some j => some (xs.eraseIdx j) | none => none
def orng1 (j : Int) : Option (List Int) := if ok62 j && lenOk j.toNat then some (rng 0 j.toNat) else none
def orng2 (i j : Int) : Option (List Int) := if ok62 i && ok62 j && lenOk (j - i).toNat then some (rng i (j - i).toNat) else none
def rngC (lo c : Int) : Nat → List Int
  | 0 => []
  | n + 1 => lo :: rngC (lo + c) c n
def orng3 (i j c : Int) : Option (List Int) := if decide (c ≠ 0) && decide (c.natAbs < 1073741824) && Builtin.Range.small i j c && lenOk (turns i j c) then some (rngC i c (turns i j c)) else none
def cutT (xs : List α) (lo hi : Option Int) : List α :=
  let l := cutIx xs.length 0 lo
  let h := cutIx xs.length xs.length hi
  (xs.drop l).take (h - l)
def enumT (k : Int) : List α → List (Int × α)
  | [] => []
  | x :: r => (k, x) :: enumT (k + 1) r
def o1 : List α → Option α | [a] => some a | _ => none
def o2 : List α → Option (α × α) | [a, b] => some (a, b) | _ => none
def o3 : List α → Option (α × α × α) | [a, b, c] => some (a, b, c) | _ => none
def o4 : List α → Option (α × α × α × α) | [a, b, c, d] => some (a, b, c, d) | _ => none
def o5 : List α → Option (α × α × α × α × α) | [a, b, c, d, e] => some (a, b, c, d, e) | _ => none
def o6 : List α → Option (α × α × α × α × α × α) | [a, b, c, d, e, f] => some (a, b, c, d, e, f) | _ => none
theorem o1_inv {xs : List α} {p : α} (h : o1 xs = some p) : xs = [p] := by unfold o1 at h; split at h <;> cases h; rfl
theorem o2_inv {xs : List α} {p : α × α} (h : o2 xs = some p) : xs = [p.1, p.2] := by unfold o2 at h; split at h <;> cases h; rfl
theorem o3_inv {xs : List α} {p : α × α × α} (h : o3 xs = some p) : xs = [p.1, p.2.1, p.2.2] := by unfold o3 at h; split at h <;> cases h; rfl
theorem o4_inv {xs : List α} {p : α × α × α × α} (h : o4 xs = some p) : xs = [p.1, p.2.1, p.2.2.1, p.2.2.2] := by unfold o4 at h; split at h <;> cases h; rfl
theorem o5_inv {xs : List α} {p : α × α × α × α × α} (h : o5 xs = some p) : xs = [p.1, p.2.1, p.2.2.1, p.2.2.2.1, p.2.2.2.2] := by unfold o5 at h; split at h <;> cases h; rfl
theorem o6_inv {xs : List α} {p : α × α × α × α × α × α} (h : o6 xs = some p) : xs = [p.1, p.2.1, p.2.2.1, p.2.2.2.1, p.2.2.2.2.1, p.2.2.2.2.2] := by unfold o6 at h; split at h <;> cases h; rfl
end
/-! ### typed values that are compared -/
class NN {α : Type} (e : α → D) : Prop where
  nn : ∀ x, isN (e x) = false
class EncOk {α : Type} [DecidableEq α] (e : α → D) (dp : outParam Nat) where
  py : α → PyData
  to : ∀ x, toPy (e x) = some (py x)
  lay : ∀ x, (py x).canLay0 = true
  dep : ∀ x, (py x).depth ≤ dp
  eqv : ∀ x y, (py x).eqv (py y) = decide (x = y)
section
variable {α β γ δ ε ζ : Type} [DecidableEq α] [DecidableEq β] [DecidableEq γ] [DecidableEq δ] [DecidableEq ε]
instance : NN D.int := ⟨fun _ => rfl⟩
instance : NN D.bl := ⟨fun _ => rfl⟩
instance {e : α → D} : NN (eL e) := ⟨fun _ => rfl⟩
instance {e : α → D} : NN (eV e) := ⟨fun _ => rfl⟩
instance {e : α → D} : NN (eT1 e) := ⟨fun _ => rfl⟩
instance {e : α → D} {f : β → D} : NN (eP e f) := ⟨fun _ => rfl⟩
instance {e : α → D} {f : β → D} {g : γ → D} : NN (eT3 e f g) := ⟨fun _ => rfl⟩
instance {e : α → D} {f : β → D} {g : γ → D} {h : δ → D} : NN (eT4 e f g h) := ⟨fun _ => rfl⟩
omit [DecidableEq α] in
theorem isN_eO {e : α → D} [NN e] (o : Option α) : isN (eO e o) = o.isNone := by
  cases o with
  | none => rfl
  | some x => exact NN.nn x
theorem toPys_map {e : α → D} {d : Nat} [q : EncOk e d] : ∀ xs : List α, toPys (xs.map e) = some (xs.map q.py)
  | [] => rfl
  | x :: r => by rw [List.map_cons, List.map_cons, toPys, q.to, toPys_map r]
theorem lays_map {e : α → D} {d : Nat} [q : EncOk e d] : ∀ xs : List α, PyData.canLayAll0 (xs.map q.py) = true
  | [] => by simp [PyData.canLayAll0]
  | x :: r => by simp [PyData.canLayAll0, q.lay x, lays_map r]
theorem deps_map {e : α → D} {d : Nat} [q : EncOk e d] : ∀ xs : List α, PyData.depthAll (xs.map q.py) ≤ d
  | [] => by simp [PyData.depthAll]
  | x :: r => by
    have h1 := deps_map (e := e) r
    have h2 := q.dep x
    simp only [List.map_cons, PyData.depthAll]
    omega
theorem eqvs_map {e : α → D} {d : Nat} [q : EncOk e d] : ∀ xs ys : List α, PyData.eqvAll (xs.map q.py) (ys.map q.py) = decide (xs = ys)
  | [], [] => by simp [PyData.eqvAll]
  | [], y :: ys => by simp [PyData.eqvAll]
  | x :: xs, [] => by simp [PyData.eqvAll]
  | x :: xs, y :: ys => by
    rw [List.map_cons, List.map_cons]
    simp only [PyData.eqvAll, q.eqv, eqvs_map xs ys, List.cons.injEq, Bool.decide_and]
instance : EncOk D.int 0 where
  py := .int
  to _ := rfl
  lay _ := by simp [PyData.canLay0]
  dep _ := by simp [PyData.depth]
  eqv x y := by simp only [PyData.eqv]; exact Bool.eq_iff_iff.mpr (by simp)
instance : EncOk D.bl 0 where
  py := .bool
  to _ := rfl
  lay _ := by simp [PyData.canLay0]
  dep _ := by simp [PyData.depth]
  eqv x y := by simp only [PyData.eqv]; exact Bool.eq_iff_iff.mpr (by simp)
instance {e : α → D} {d : Nat} [q : EncOk e d] : EncOk (eL e) (d + 1) where
  py xs := .list (xs.map q.py)
  to xs := by simp only [eL, toPy, toPys_map]
  lay xs := by simp only [PyData.canLay0, lays_map]
  dep xs := by have := deps_map (e := e) xs; simp only [PyData.depth]; omega
  eqv x y := by simp only [PyData.eqv, eqvs_map]
instance {e : α → D} {d : Nat} [q : EncOk e d] : EncOk (eV e) (d + 1) where
  py xs := .tuple (xs.map q.py)
  to xs := by simp only [eV, toPy, toPys_map]
  lay xs := by simp only [PyData.canLay0, lays_map]
  dep xs := by have := deps_map (e := e) xs; simp only [PyData.depth]; omega
  eqv x y := by simp only [PyData.eqv, eqvs_map]
instance {e : α → D} {d : Nat} [q : EncOk e d] : EncOk (eT1 e) (d + 1) where
  py x := .tuple [q.py x]
  to x := by simp only [eT1, toPy, toPys, q.to]
  lay x := by simp only [PyData.canLay0, PyData.canLayAll0, q.lay, Bool.and_true]
  dep x := by have := q.dep x; simp only [PyData.depth, PyData.depthAll]; omega
  eqv x y := by simp only [PyData.eqv, PyData.eqvAll, q.eqv, Bool.and_true]
instance {e : α → D} {f : β → D} {d d2 : Nat} [q : EncOk e d] [r : EncOk f d2] : EncOk (eP e f) (d + d2 + 1) where
  py x := .tuple [q.py x.1, r.py x.2]
  to x := by simp only [eP, toPy, toPys, q.to, r.to]
  lay x := by simp only [PyData.canLay0, PyData.canLayAll0, q.lay, r.lay, Bool.and_true]
  dep x := by have := q.dep x.1; have := r.dep x.2; simp only [PyData.depth, PyData.depthAll]; omega
  eqv x y := by simp only [PyData.eqv, PyData.eqvAll, q.eqv, r.eqv, Bool.and_true, Prod.ext_iff, Bool.decide_and]
instance {e : α → D} {f : β → D} {g : γ → D} {d d2 d3 : Nat} [q : EncOk e d] [r : EncOk f d2] [s : EncOk g d3] : EncOk (eT3 e f g) (d + d2 + d3 + 1) where
  py x := .tuple [q.py x.1, r.py x.2.1, s.py x.2.2]
  to x := by simp only [eT3, toPy, toPys, q.to, r.to, s.to]
  lay x := by simp only [PyData.canLay0, PyData.canLayAll0, q.lay, r.lay, s.lay, Bool.and_true]
  dep x := by have := q.dep x.1; have := r.dep x.2.1; have := s.dep x.2.2; simp only [PyData.depth, PyData.depthAll]; omega
  eqv x y := by simp only [PyData.eqv, PyData.eqvAll, q.eqv, r.eqv, s.eqv, Bool.and_true, Prod.ext_iff, Bool.decide_and]
instance {e : α → D} {f : β → D} {g : γ → D} {h : δ → D} {d d2 d3 d4 : Nat} [q : EncOk e d] [r : EncOk f d2] [s : EncOk g d3] [t : EncOk h d4] : EncOk (eT4 e f g h) (d + d2 + d3 + d4 + 1) where
  py x := .tuple [q.py x.1, r.py x.2.1, s.py x.2.2.1, t.py x.2.2.2]
  to x := by simp only [eT4, toPy, toPys, q.to, r.to, s.to, t.to]
  lay x := by simp only [PyData.canLay0, PyData.canLayAll0, q.lay, r.lay, s.lay, t.lay, Bool.and_true]
  dep x := by have := q.dep x.1; have := r.dep x.2.1; have := s.dep x.2.2.1; have := t.dep x.2.2.2; simp only [PyData.depth, PyData.depthAll]; omega
  eqv x y := by simp only [PyData.eqv, PyData.eqvAll, q.eqv, r.eqv, s.eqv, t.eqv, Bool.and_true, Prod.ext_iff, Bool.decide_and]
theorem toPy_nn {e : α → D} {d : Nat} [q : EncOk e d] [NN e] (x : α) : (q.py x).eqv .none = false ∧ PyData.eqv .none (q.py x) = false := by
  have h := q.to x
  have n := NN.nn (e := e) x
  generalize q.py x = y at *
  generalize e x = z at *
  cases z <;> simp [isN] at n <;> simp only [toPy] at h
  · cases h; exact ⟨by simp [PyData.eqv], by simp [PyData.eqv]⟩
  · cases h; exact ⟨by simp [PyData.eqv], by simp [PyData.eqv]⟩
  · cases h; exact ⟨by simp [PyData.eqv], by simp [PyData.eqv]⟩
  · split at h
    · cases h; exact ⟨by simp [PyData.eqv], by simp [PyData.eqv]⟩
    · cases h
  · split at h
    · cases h; exact ⟨by simp [PyData.eqv], by simp [PyData.eqv]⟩
    · cases h
  · cases h
  · cases h
instance {e : α → D} {d : Nat} [q : EncOk e d] [NN e] : EncOk (eO e) d where
  py x := match x with | none => .none | some x => q.py x
  to x := by cases x with
    | none => rfl
    | some x => exact q.to x
  lay x := by cases x with
    | none => simp [PyData.canLay0]
    | some x => exact q.lay x
  dep x := by cases x with
    | none => simp [PyData.depth]
    | some x => exact q.dep x
  eqv x y := by
    cases x with
    | none => cases y with
      | none => simp [PyData.eqv]
      | some y => simpa using (toPy_nn (e := e) y).2
    | some x => cases y with
      | none => simpa using (toPy_nn (e := e) x).1
      | some y => simpa using q.eqv x y
theorem shp_ok {e : α → D} {d : Nat} [q : EncOk e d] (hd : d ≤ 64) (x : α) : shp (q.py x) = true := by
  have := q.dep x
  simp only [shp, q.lay x, Bool.true_and, decide_eq_true_eq]
  omega
theorem eqD_ok {e : α → D} {d : Nat} [q : EncOk e d] (hd : d ≤ 64) (x y : α) : eqD (e x) (e y) = some (decide (x = y)) := by
  have h : (match toPy (e x), toPy (e y) with | some x, some y => if shp x && shp y then some (PyData.eqv x y) else none | _, _ => none) = some (decide (x = y)) := by
    simp only [q.to, shp_ok hd, Bool.and_self, if_true, q.eqv]
  unfold eqD
  split
  · rename_i i j ex ey
    rw [← h, ex, ey]
    simp only [toPy]
    have h1 : ∀ i : Int, shp (.int i) = true := fun i => by simp [shp, PyData.canLay0, PyData.depth]
    simp only [h1, Bool.and_self, if_true, PyData.eqv]
  · exact h
theorem memT_iff {x : α} {xs : List α} : memT x xs = true ↔ x ∈ xs := by
  unfold memT
  rw [List.any_eq_true]
  constructor
  · rintro ⟨z, h1, h2⟩
    rw [decide_eq_true_eq] at h2
    subst h2; exact h1
  · intro h
    exact ⟨x, h, decide_eq_true rfl⟩
theorem memD_ok {e : α → D} {d : Nat} [q : EncOk e d] (hd : d ≤ 63) (x : α) (ys : List α) : memD (e x) (eL e ys) = some (memT x ys) := by
  have h2 : shp (.list (ys.map q.py)) = true := by
    have := shp_ok (e := eL e) (by omega) ys
    exact this
  simp only [eL, memD, q.to, toPys_map, shp_ok (show d ≤ 64 by omega), h2, Bool.and_self, if_true]
  congr 1
  unfold memT
  rw [List.any_map]
  congr 1
  funext z
  exact q.eqv z x
theorem map_erase {β : Type} (f : α → β) : ∀ (xs : List α) (j : Nat), (xs.map f).eraseIdx j = (xs.eraseIdx j).map f
  | [], _ => rfl
  | x :: xs, 0 => rfl
  | x :: xs, j + 1 => by simp only [List.map_cons, List.eraseIdx_cons_succ, map_erase f xs j]
theorem remD_ok {e : α → D} {d : Nat} [q : EncOk e d] (hd : d ≤ 63) (x : α) (xs ys : List α) (h : orem xs x = some ys) : remD (e x) (xs.map e) = some (ys.map e) := by
  have h2 : shp (.list (xs.map q.py)) = true := shp_ok (e := eL e) (by omega) xs
  unfold remD
  rw [q.to, toPys_map]
  simp only [shp_ok (e := e) (show d ≤ 64 by omega), h2, Bool.and_self, if_true, List.findIdx?_map]
  have : ((fun z => PyData.eqv z (q.py x)) ∘ q.py) = fun z => decide (z = x) := by funext z; exact q.eqv z x
  rw [this]
  unfold orem at h
  split at h
  · rename_i j hj
    cases h
    try rw [hj]
    simp only [map_erase]
  · cases h
end
end Zz
/-! ZX: an expression's value, a block's end: the pieces of a walk. -/
namespace Zz
open PySem
def Ev (P : Pr) (a : E) (e : Env) (m : List D) (v : D) (m' : List D) : Prop := evE P a e m = some (v, m')
def EvEs (P : Pr) (a : List E) (e : Env) (m : List D) (v : List D) (m' : List D) : Prop := evEs P a e m = some (v, m')
def Tr (P : Pr) (a : E) (e : Env) (m : List D) (b : Bool) (m' : List D) : Prop := ∃ v, evE P a e m = some (v, m') ∧ truD P v = some b
theorem Tr.ev {P : Pr} {a : E} {e : Env} {m m' : List D} {b : Bool} (h : Tr P a e m b m') : evC P a e m = some (b, m') := by
  obtain ⟨v, h1, h2⟩ := h
  simp only [evC, h1, h2]
def TrIf (P : Pr) (as : List E) (e : Env) (m : List D) (b : Bool) (m' : List D) : Prop := evIfs P as e m = some (b, m')
section
variable {P : Pr} {e : Env} {m m1 m2 m3 : List D} {a b c : E} {as bs : List E} {α β γ : Type} {ea : α → D} {eb : β → D}
/-! ### expressions -/
theorem ev_var {i : Nat} {d : D} (h : getE e i = some d) : Ev P (.var i) e m d m := by simp only [Ev, evE, h]
theorem ev_lit {d : D} : Ev P (.lit d) e m d m := rfl
theorem ev_eq {t x : α} (h : Ev P a e m (ea t) m1) (q : some t = some x) : Ev P a e m (ea x) m1 := by cases q; exact h
theorem ev_eq' {t x : α} (h : Ev P a e m (ea t) m1) (q : t = x) : Ev P a e m (ea x) m1 := by cases q; exact h
theorem ev_un {o : Option α} {x : α} (h : Ev P a e m (eO ea o) m1) (q : o = some x) : Ev P a e m (ea x) m1 := by cases q; exact h
theorem ev_opI {o : Op} {x y z : D} (ha : Ev P a e m x m1) (hb : Ev P b e m1 y m2) (h : opD o x y = some z) : Ev P (.op o a b) e m z m2 := by
  unfold Ev at *; simp only [evE, ha, hb, h]
theorem ev_add {x y : Int} (ha : Ev P a e m (.int x) m1) (hb : Ev P b e m1 (.int y) m2) : Ev P (.op .add a b) e m (.int (x + y)) m2 := ev_opI ha hb rfl
theorem ev_sub {x y : Int} (ha : Ev P a e m (.int x) m1) (hb : Ev P b e m1 (.int y) m2) : Ev P (.op .sub a b) e m (.int (x - y)) m2 := ev_opI ha hb rfl
theorem if_inv {α : Type} {c : Bool} {x y : α} (h : (if c = true then some x else none) = some y) : c = true ∧ x = y := by
  split at h
  · rename_i hc; cases h; exact ⟨hc, rfl⟩
  · cases h
theorem ev_mul {x y z : Int} (ha : Ev P a e m (.int x) m1) (hb : Ev P b e m1 (.int y) m2) (h : omul x y = some z) : Ev P (.op .mul a b) e m (.int z) m2 := by
  obtain ⟨h1, rfl⟩ := if_inv h
  exact ev_opI ha hb (if_pos h1)
theorem ev_div {x y z : Int} (ha : Ev P a e m (.int x) m1) (hb : Ev P b e m1 (.int y) m2) (h : odiv x y = some z) : Ev P (.op .fdiv a b) e m (.int z) m2 := by
  obtain ⟨h1, rfl⟩ := if_inv h
  exact ev_opI ha hb (if_pos h1)
theorem ev_mod {x y z : Int} (ha : Ev P a e m (.int x) m1) (hb : Ev P b e m1 (.int y) m2) (h : omod x y = some z) : Ev P (.op .mod a b) e m (.int z) m2 := by
  obtain ⟨h1, rfl⟩ := if_inv h
  rw [decide_eq_true_eq] at h1
  exact ev_opI ha hb (if_pos h1)
theorem ev_pow {x y z : Int} (ha : Ev P a e m (.int x) m1) (hb : Ev P b e m1 (.int y) m2) (h : opow x y = some z) : Ev P (.op .pow a b) e m (.int z) m2 := by
  obtain ⟨h1, rfl⟩ := if_inv h
  exact ev_opI ha hb (if_pos h1)
theorem ev_catL {x y z : List α} (ha : Ev P a e m (eL ea x) m1) (hb : Ev P b e m1 (eL ea y) m2) (h : olen (x ++ y) = some z) : Ev P (.op .add a b) e m (eL ea z) m2 := by
  obtain ⟨h1, rfl⟩ := if_inv h
  refine ev_opI ha hb ?_
  simp only [eL, opD, ← List.length_append, ← List.map_append, List.length_map, h1, if_true]
theorem ev_catV {x y z : List α} (ha : Ev P a e m (eV ea x) m1) (hb : Ev P b e m1 (eV ea y) m2) (h : olen (x ++ y) = some z) : Ev P (.op .add a b) e m (eV ea z) m2 := by
  obtain ⟨h1, rfl⟩ := if_inv h
  refine ev_opI ha hb ?_
  simp only [eV, opD, ← List.length_append, ← List.map_append, List.length_map, h1, if_true]
theorem ev_catT {x y : List D} (ha : Ev P a e m (.tup x) m1) (hb : Ev P b e m1 (.tup y) m2) (h : lenOk (x.length + y.length) = true) : Ev P (.op .add a b) e m (.tup (x ++ y)) m2 := ev_opI ha hb (if_pos h)
theorem map_rep (f : α → β) (xs : List α) : ∀ n : Nat, (List.replicate n (xs.map f)).flatten = ((List.replicate n xs).flatten).map f
  | 0 => rfl
  | n + 1 => by simp only [List.replicate_succ, List.flatten_cons, List.map_append, map_rep f xs n]
theorem ev_rep {x z : List α} {k : Int} (ha : Ev P a e m (eL ea x) m1) (hb : Ev P b e m1 (.int k) m2) (h : orep x k = some z) : Ev P (.op .mul a b) e m (eL ea z) m2 := by
  obtain ⟨h1, rfl⟩ := if_inv h
  refine ev_opI ha hb ?_
  simp only [eL, opD, List.length_map, h1, if_true, map_rep]
theorem ev_neg {x : Int} (ha : Ev P a e m (.int x) m1) : Ev P (.neg a) e m (.int (-x)) m1 := by unfold Ev at *; simp only [evE, ha]
/-! comparisons -/
theorem ev_cmp1 {o : Cop} {x y : D} {r : Bool} (ha : Ev P a e m x m1) (hb : Ev P b e m1 y m2) (h : cmpD o x y = some r) : Ev P (.cmp a [o] [b]) e m (.bl r) m2 := by
  unfold Ev at *; simp only [evE, evCh, ha, hb, h]
theorem ev_cmp2 {o o2 : Cop} {x y z : D} {r r2 : Bool} {b2 : E} (ha : Ev P a e m x m1) (hb : Ev P b e m1 y m2) (h : cmpD o x y = some r) (hb2 : Ev P b2 e m2 z m2) (h2 : cmpD o2 y z = some r2) : Ev P (.cmp a [o, o2] [b, b2]) e m (.bl (r && r2)) m2 := by
  unfold Ev at *; simp only [evE, evCh, ha, hb, h]
  cases r
  · rfl
  · simp only [hb2, h2, Bool.true_and]
theorem ev_cmp3 {o o2 o3 : Cop} {x y z w : D} {r r2 r3 : Bool} {b2 b3 : E} (ha : Ev P a e m x m1) (hb : Ev P b e m1 y m2) (h : cmpD o x y = some r) (hb2 : Ev P b2 e m2 z m2) (h2 : cmpD o2 y z = some r2) (hb3 : Ev P b3 e m2 w m2) (h3 : cmpD o3 z w = some r3) :
    Ev P (.cmp a [o, o2, o3] [b, b2, b3]) e m (.bl (r && (r2 && r3))) m2 := by
  unfold Ev at *; simp only [evE, evCh, ha, hb, h]
  cases r
  · rfl
  · simp only [hb2, h2, Bool.true_and]
    cases r2
    · rfl
    · simp only [hb3, h3, Bool.true_and]
theorem q_lt {x y : Int} : cmpD .lt (.int x) (.int y) = some (decide (x < y)) := rfl
theorem q_le {x y : Int} : cmpD .le (.int x) (.int y) = some (decide (x ≤ y)) := rfl
theorem q_gt {x y : Int} : cmpD .gt (.int x) (.int y) = some (decide (y < x)) := rfl
theorem q_ge {x y : Int} : cmpD .ge (.int x) (.int y) = some (decide (y ≤ x)) := rfl
theorem q_eq [DecidableEq α] {d : Nat} [EncOk ea d] (hd : d ≤ 64) {x y : α} : cmpD .eq (ea x) (ea y) = some (decide (x = y)) := eqD_ok hd x y
theorem q_ne [DecidableEq α] {d : Nat} [EncOk ea d] (hd : d ≤ 64) {x y : α} : cmpD .ne (ea x) (ea y) = some (!decide (x = y)) := by
  show (eqD (ea x) (ea y)).map _ = _
  rw [eqD_ok hd]; rfl
theorem q_mem [DecidableEq α] {d : Nat} [EncOk ea d] (hd : d ≤ 63) {x : α} {ys : List α} : cmpD .mem (ea x) (eL ea ys) = some (memT x ys) := memD_ok hd x ys
theorem q_nmem [DecidableEq α] {d : Nat} [EncOk ea d] (hd : d ≤ 63) {x : α} {ys : List α} : cmpD .nmem (ea x) (eL ea ys) = some (!memT x ys) := by
  show (memD (ea x) (eL ea ys)).map _ = _
  rw [memD_ok hd]; rfl
theorem q_is [NN ea] {x : Option α} : cmpD .is (eO ea x) .non = some x.isNone := by rw [c_is, isN_eO]
theorem q_isn [NN ea] {x : Option α} : cmpD .isn (eO ea x) .non = some x.isSome := by rw [c_isn, isN_eO]; cases x <;> rfl
theorem q_isF [NN ea] {x : α} : cmpD .is (ea x) .non = some false := by rw [c_is, NN.nn]
theorem q_isnF [NN ea] {x : α} : cmpD .isn (ea x) .non = some true := by rw [c_isn, NN.nn]; rfl
/-! tests -/
theorem tr_bl {x : Bool} (h : Ev P a e m (.bl x) m1) : Tr P a e m x m1 := ⟨_, h, rfl⟩
theorem tr_int {x : Int} (h : Ev P a e m (.int x) m1) : Tr P a e m (x != 0) m1 := ⟨_, h, rfl⟩
theorem tr_L {x : List α} (h : Ev P a e m (eL ea x) m1) : Tr P a e m (!x.isEmpty) m1 := ⟨_, h, by cases x <;> rfl⟩
theorem tr_V {x : List α} (h : Ev P a e m (eV ea x) m1) : Tr P a e m (!x.isEmpty) m1 := ⟨_, h, by cases x <;> rfl⟩
theorem tr_scr (h : Ev P a e m .scr m1) : Tr P a e m (!P.ns.isEmpty) m1 := ⟨_, h, rfl⟩
theorem tr_and1 {x : Bool} (h : Tr P a e m x m1) : Tr P (.and [a]) e m x m1 := by
  obtain ⟨v, h1, h2⟩ := h
  exact ⟨v, by simp only [evE, evAnd, h1], h2⟩
theorem tr_or1 {x : Bool} (h : Tr P a e m x m1) : Tr P (.or [a]) e m x m1 := by
  obtain ⟨v, h1, h2⟩ := h
  exact ⟨v, by simp only [evE, evOr, h1], h2⟩
theorem tr_and {x y : Bool} (h : Tr P a e m x m1) (k : x = true → Tr P (.and (b :: as)) e m1 y m1) : Tr P (.and (a :: b :: as)) e m (x && y) m1 := by
  obtain ⟨v, h1, h2⟩ := h
  cases x with
  | true =>
    obtain ⟨w, h3, h4⟩ := k rfl
    simp only [evE] at h3
    exact ⟨w, by simp only [evE, evAnd, h1, h2, h3], by rw [Bool.true_and]; exact h4⟩
  | false => exact ⟨v, by simp only [evE, evAnd, h1, h2], h2⟩
theorem tr_or {x y : Bool} (h : Tr P a e m x m1) (k : x = false → Tr P (.or (b :: as)) e m1 y m1) : Tr P (.or (a :: b :: as)) e m (x || y) m1 := by
  obtain ⟨v, h1, h2⟩ := h
  cases x with
  | false =>
    obtain ⟨w, h3, h4⟩ := k rfl
    simp only [evE] at h3
    exact ⟨w, by simp only [evE, evOr, h1, h2, h3], by rw [Bool.false_or]; exact h4⟩
  | true => exact ⟨v, by simp only [evE, evOr, h1, h2], h2⟩
theorem ev_not {x : Bool} (h : Tr P a e m x m1) : Ev P (.not a) e m (.bl (!x)) m1 := by
  obtain ⟨v, h1, h2⟩ := h
  simp only [Ev, evE, h1, h2]
/-- and, or of Booleans, as values -/
theorem ev_and1 {v : D} (h : Ev P a e m v m1) : Ev P (.and [a]) e m v m1 := by unfold Ev at *; simp only [evE, evAnd, h]
theorem ev_or1 {v : D} (h : Ev P a e m v m1) : Ev P (.or [a]) e m v m1 := by unfold Ev at *; simp only [evE, evOr, h]
theorem ev_and {x y : Bool} (h : Ev P a e m (.bl x) m1) (k : x = true → Ev P (.and (b :: as)) e m1 (.bl y) m1) : Ev P (.and (a :: b :: as)) e m (.bl (x && y)) m1 := by
  unfold Ev at *
  simp only [evE, evAnd, h, truD] at k ⊢
  cases x
  · rfl
  · simpa using k rfl
theorem ev_or {x y : Bool} (h : Ev P a e m (.bl x) m1) (k : x = false → Ev P (.or (b :: as)) e m1 (.bl y) m1) : Ev P (.or (a :: b :: as)) e m (.bl (x || y)) m1 := by
  unfold Ev at *
  simp only [evE, evOr, h, truD] at k ⊢
  cases x
  · simpa using k rfl
  · rfl
theorem ev_ite {f : Bool → D} {g : Bool → List D} {x : Bool} (hc : Tr P c e m x m1) (ht : x = true → Ev P a e m1 (f true) (g true)) (hf : x = false → Ev P b e m1 (f false) (g false)) : Ev P (.ite c a b) e m (f x) (g x) := by
  obtain ⟨v, h1, h2⟩ := hc
  unfold Ev at *
  simp only [evE, h1, h2]
  cases x
  · exact hf rfl
  · exact ht rfl
theorem tr_andO {x z : Bool} {o : Option Bool} (hz : cond x o (some false) = some z) (ha : Tr P a e m x m1) (k : o = some z → Tr P (.and (b :: as)) e m1 z m1) : Tr P (.and (a :: b :: as)) e m z m1 := by
  cases x with
  | true => simpa using tr_and (y := z) ha fun _ => k hz
  | false => cases hz; simpa using tr_and (y := false) ha fun h => by cases h
theorem ev_andO {x z : Bool} {o : Option Bool} (hz : cond x o (some false) = some z) (ha : Ev P a e m (.bl x) m1) (k : o = some z → Ev P (.and (b :: as)) e m1 (.bl z) m1) : Ev P (.and (a :: b :: as)) e m (.bl z) m1 := by
  cases x with
  | true => simpa using ev_and (y := z) ha fun _ => k hz
  | false => cases hz; simpa using ev_and (y := false) ha fun h => by cases h
theorem tr_orO {x z : Bool} {o : Option Bool} (hz : cond x (some true) o = some z) (ha : Tr P a e m x m1) (k : o = some z → Tr P (.or (b :: as)) e m1 z m1) : Tr P (.or (a :: b :: as)) e m z m1 := by
  cases x with
  | false => simpa using tr_or (y := z) ha fun _ => k hz
  | true => cases hz; simpa using tr_or (y := true) ha fun h => by cases h
theorem ev_orO {x z : Bool} {o : Option Bool} (hz : cond x (some true) o = some z) (ha : Ev P a e m (.bl x) m1) (k : o = some z → Ev P (.or (b :: as)) e m1 (.bl z) m1) : Ev P (.or (a :: b :: as)) e m (.bl z) m1 := by
  cases x with
  | false => simpa using ev_or (y := z) ha fun _ => k hz
  | true => cases hz; simpa using ev_or (y := true) ha fun h => by cases h
theorem ev_iteO {x : Bool} {oA oB : Option α} {z : α} (hz : cond x oA oB = some z) (hc : Tr P c e m x m1) (ht : oA = some z → Ev P a e m1 (ea z) m1) (hf : oB = some z → Ev P b e m1 (ea z) m1) : Ev P (.ite c a b) e m (ea z) m1 :=
  ev_ite (f := fun _ => ea z) (g := fun _ => m1) hc (fun h => ht (cnT h hz)) fun h => hf (cnF h hz)
theorem ev_iteS {x : Bool} {oA oB : Option (α × Sta)} {z : α × Sta} (hz : cond x oA oB = some z) (hc : Tr P c e m x m1) (ht : oA = some z → Ev P a e m1 (ea z.1) (eS z.2)) (hf : oB = some z → Ev P b e m1 (ea z.1) (eS z.2)) : Ev P (.ite c a b) e m (ea z.1) (eS z.2) :=
  ev_ite (f := fun _ => ea z.1) (g := fun _ => eS z.2) hc (fun h => ht (cnT h hz)) fun h => hf (cnF h hz)
/-! rows -/
theorem evs_nil : EvEs P [] e m [] m := rfl
theorem evs_cons {x : D} {xs : List D} (ha : Ev P a e m x m1) (hs : EvEs P as e m1 xs m2) : EvEs P (a :: as) e m (x :: xs) m2 := by
  unfold Ev EvEs at *; simp only [evEs, ha, hs]
theorem ev_tup {xs : List D} (h : EvEs P as e m xs m1) (hl : lenOk xs.length = true) : Ev P (.tup as) e m (.tup xs) m1 := by
  unfold Ev EvEs at *; simp only [evE, h, hl, if_true]
theorem ev_lst {xs : List D} (h : EvEs P as e m xs m1) (hl : lenOk xs.length = true) : Ev P (.lst as) e m (.lst xs) m1 := by
  unfold Ev EvEs at *; simp only [evE, h, hl, if_true]
theorem ev_ix {x y z : D} (ha : Ev P a e m x m1) (hb : Ev P b e m1 y m2) (h : ixD P m2 x y = some z) : Ev P (.ix a b) e m z m2 := by
  unfold Ev at *; simp only [evE, ha, hb, h]
theorem at_map {xs : List α} {i : Int} {x : α} (h : oget xs i = some x) : at_ (xs.map ea) i = some (ea x) := by
  unfold oget at h; unfold at_
  rw [List.length_map]
  cases hx : ixI xs.length i with
  | none => rw [hx] at h; cases h
  | some j =>
    rw [hx] at h
    simp only [Option.bind_some] at h ⊢
    rw [List.getElem?_map, h]; rfl
theorem ev_ixL {xs : List α} {i : Int} {x : α} (ha : Ev P a e m (eL ea xs) m1) (hb : Ev P b e m1 (.int i) m2) (h : oget xs i = some x) : Ev P (.ix a b) e m (ea x) m2 := ev_ix ha hb (at_map h)
theorem ev_ixV {xs : List α} {i : Int} {x : α} (ha : Ev P a e m (eV ea xs) m1) (hb : Ev P b e m1 (.int i) m2) (h : oget xs i = some x) : Ev P (.ix a b) e m (ea x) m2 := ev_ix ha hb (at_map h)
theorem ev_sl {d : D} {lo hi : List E} {l h : List D} {z : D} (ha : Ev P a e m d m1) (hl : EvEs P lo e m1 l m2) (hh : EvEs P hi e m2 h m3) (q : slD d l h = some z) : Ev P (.sl a lo hi) e m z m3 := by
  unfold Ev EvEs at *; simp only [evE, ha, hl, hh, q]
theorem cut_map {xs : List α} {lo hi : Option Int} : cut (xs.map ea) lo hi = (cutT xs lo hi).map ea := by
  simp only [cut, cutT, List.length_map, List.map_take, List.map_drop]
def pI : Option Int → List D | none => [] | some i => [.int i]
theorem part_pI {o : Option Int} : partD (pI o) = some o := by cases o <;> rfl
theorem ev_slL {xs : List α} {lo hi : List E} {l h : Option Int} (ha : Ev P a e m (eL ea xs) m1) (hl : EvEs P lo e m1 (pI l) m2) (hh : EvEs P hi e m2 (pI h) m3) : Ev P (.sl a lo hi) e m (eL ea (cutT xs l h)) m3 :=
  ev_sl ha hl hh (by simp only [eL, slD, part_pI, cut_map])
theorem ev_slV {xs : List α} {lo hi : List E} {l h : Option Int} (ha : Ev P a e m (eV ea xs) m1) (hl : EvEs P lo e m1 (pI l) m2) (hh : EvEs P hi e m2 (pI h) m3) : Ev P (.sl a lo hi) e m (eV ea (cutT xs l h)) m3 :=
  ev_sl ha hl hh (by simp only [eV, slD, part_pI, cut_map])
/-! built-ins -/
theorem ev_bi {f : Bi} {xs : List D} {z : D} (h : EvEs P as e m xs m1) (q : biD P f xs = some z) : Ev P (.bi f as) e m z m1 := by
  unfold Ev EvEs at *; simp only [evE, h, q]
theorem ev_bi1 {f : Bi} {x z : D} (h : Ev P a e m x m1) (q : biD P f [x] = some z) : Ev P (.bi f [a]) e m z m1 := ev_bi (evs_cons h evs_nil) q
theorem ev_bi2 {f : Bi} {x y z : D} (h : Ev P a e m x m1) (h2 : Ev P b e m1 y m2) (q : biD P f [x, y] = some z) : Ev P (.bi f [a, b]) e m z m2 := ev_bi (evs_cons h (evs_cons h2 evs_nil)) q
theorem ev_bi3 {f : Bi} {x y z w : D} (h : Ev P a e m x m1) (h2 : Ev P b e m1 y m2) (h3 : Ev P c e m2 w m3) (q : biD P f [x, y, w] = some z) : Ev P (.bi f [a, b, c]) e m z m3 := ev_bi (evs_cons h (evs_cons h2 (evs_cons h3 evs_nil))) q
theorem b_lenL {xs : List α} : biD P .len [eL ea xs] = some (.int xs.length) := by simp [eL, biD, itemsD]
theorem b_lenV {xs : List α} : biD P .len [eV ea xs] = some (.int xs.length) := by simp [eV, biD, itemsD]
theorem b_lenS : biD P .len [.scr] = some (.int P.ns.length) := by simp [biD, itemsD]
def absT (i : Int) : Int := if i < 0 then -i else i
def b2i (b : Bool) : Int := if b = true then 1 else 0
def maxT (i j : Int) : Int := if j > i then j else i
def minT (i j : Int) : Int := if j < i then j else i
def gcdT (i j : Int) : Int := (Nat.gcd i.natAbs j.natAbs : Nat)
theorem b_abs {i : Int} : biD P .abs [.int i] = some (.int (absT i)) := rfl
theorem b_int {i : Int} : biD P .int1 [.int i] = some (.int i) := rfl
theorem b_intb {b : Bool} : biD P .int1 [.bl b] = some (.int (b2i b)) := rfl
theorem b_max {i j : Int} : biD P .max2 [.int i, .int j] = some (.int (maxT i j)) := rfl
theorem b_min {i j : Int} : biD P .min2 [.int i, .int j] = some (.int (minT i j)) := rfl
theorem b_gcd {i j : Int} : biD P .gcd [.int i, .int j] = some (.int (gcdT i j)) := rfl
theorem b_sum {is : List Int} : biD P .sum [eL D.int is] = some (.int is.sum) := by simp [eL, biD, ints_map]
theorem b_listL {xs : List α} : biD P .list [eL ea xs] = some (eL ea xs) := rfl
theorem b_listV {xs : List α} : biD P .list [eV ea xs] = some (eL ea xs) := rfl
theorem b_tupL {xs : List α} : biD P .tuple [eL ea xs] = some (eV ea xs) := rfl
theorem b_tupV {xs : List α} : biD P .tuple [eV ea xs] = some (eV ea xs) := rfl
theorem b_srt {is : List Int} : biD P .sorted [eL D.int is] = some (eL D.int (sortI is)) := by simp [eL, biD, ints_map]
theorem bools_map : ∀ bs : List Bool, boolsD (bs.map D.bl) = some bs
  | [] => rfl
  | b :: bs => by rw [List.map_cons, boolsD, bools_map bs]
theorem b_all {bs : List Bool} : biD P .all [eL D.bl bs] = some (.bl (bs.all id)) := by simp [eL, biD, bools_map]
theorem b_any {bs : List Bool} : biD P .any [eL D.bl bs] = some (.bl (bs.any id)) := by simp [eL, biD, bools_map]
def anyI (is : List Int) : Bool := is.any fun i => i != 0
theorem b_anyI {is : List Int} : biD P .any [eL D.int is] = some (.bl (anyI is)) := by
  cases is with
  | nil => rfl
  | cons i r =>
    have h : boolsD ((i :: r).map D.int) = none := rfl
    simp only [eL, biD, h, ints_map, anyI]
def olset (is : List Int) : Option Int := if decide (is.length ≤ 4000) then some ((ddI is).length : Int) else none
theorem b_lset {is : List Int} {z : Int} (h : olset is = some z) : biD P .lenset [eL D.int is] = some (.int z) := by
  obtain ⟨h1, rfl⟩ := if_inv h
  simp only [eL, biD, ints_map, h1, if_true]
theorem b_rng1 {j : Int} {z : List Int} (h : orng1 j = some z) : biD P .range [.int j] = some (eL D.int z) := by
  obtain ⟨h1, rfl⟩ := if_inv h
  simp only [biD, h1, if_true, rng_map, eL]
theorem b_rng2 {i j : Int} {z : List Int} (h : orng2 i j = some z) : biD P .range [.int i, .int j] = some (eL D.int z) := by
  obtain ⟨h1, rfl⟩ := if_inv h
  simp only [biD, h1, if_true, rng_map, eL]
theorem rngC_map : ∀ (n : Nat) (lo c : Int), rangeC lo c n = (rngC lo c n).map D.int
  | 0, _, _ => rfl
  | n + 1, lo, c => by rw [rangeC, rngC, List.map_cons, rngC_map n]
theorem b_rng3 {i j k : Int} {z : List Int} (h : orng3 i j k = some z) : biD P .range [.int i, .int j, .int k] = some (eL D.int z) := by
  obtain ⟨h1, rfl⟩ := if_inv h
  simp only [biD, h1, if_true, rngC_map, eL]
theorem enum_map : ∀ (xs : List α) (k : Int), enumD k (xs.map ea) = (enumT k xs).map (eP D.int ea)
  | [], _ => rfl
  | x :: r, k => by rw [List.map_cons, enumD, enumT, List.map_cons, enum_map r]; rfl
theorem b_enumL {xs : List α} : biD P .enum [eL ea xs] = some (eL (eP D.int ea) (enumT 0 xs)) := by simp only [eL, biD, enum_map]
theorem b_enumV {xs : List α} : biD P .enum [eV ea xs] = some (eL (eP D.int ea) (enumT 0 xs)) := by simp only [eL, eV, biD, enum_map]
theorem zip_map : ∀ (xs : List α) (ys : List β), zipD (xs.map ea) (ys.map eb) = (xs.zip ys).map (eP ea eb)
  | [], _ => by simp [zipD]
  | _ :: _, [] => by simp [zipD]
  | x :: xs, y :: ys => by simp only [List.map_cons, zipD, List.zip_cons_cons, zip_map xs ys]; rfl
theorem b_zipL {xs : List α} {ys : List β} : biD P .zip [eL ea xs, eL eb ys] = some (eL (eP ea eb) (xs.zip ys)) := by simp only [eL, biD, zip_map]
theorem b_zipV {xs : List α} {ys : List β} : biD P .zip [eV ea xs, eV eb ys] = some (eL (eP ea eb) (xs.zip ys)) := by simp only [eL, eV, biD, zip_map]
theorem b_revL {xs : List α} : biD P .rev [eL ea xs] = some (eL ea xs.reverse) := by simp only [eL, biD, List.map_reverse]
theorem b_revV {xs : List α} : biD P .rev [eV ea xs] = some (eL ea xs.reverse) := by simp only [eL, eV, biD, List.map_reverse]
theorem ev_call {f : Nat} {sc : Bool} {xs : List D} {r : D × List D} (h : EvEs P as e m xs m1) (q : P.call f xs m1 = some r) : Ev P (.call f sc as) e m r.1 r.2 := by
  unfold Ev EvEs at *; simp only [evE, h, q]
theorem lk {n : Nat} (h : Nat.ble n 1000 = true) : lenOk n = true := by
  have := Nat.le_of_ble_eq_true h
  simp only [lenOk, decide_eq_true_eq]; omega
theorem evs_len {P : Pr} {e : Env} : ∀ {as : List E} {m m1 : List D} {xs : List D}, EvEs P as e m xs m1 → xs.length = as.length
  | [], m, m1, xs, h => by unfold EvEs at h; simp only [evEs] at h; cases h; rfl
  | a :: as, m, m1, xs, h => by
    unfold EvEs at h; simp only [evEs] at h
    split at h
    · split at h
      · rename_i h2
        cases h
        simp only [List.length_cons, evs_len (as := as) h2]
      · cases h
    · cases h
theorem ev_tu {xs : List D} (h : EvEs P as e m xs m1) (hl : Nat.ble as.length 1000 = true) : Ev P (.tup as) e m (.tup xs) m1 := ev_tup h (by rw [evs_len h]; exact lk hl)
theorem ev_ls {xs : List D} (h : EvEs P as e m xs m1) (hl : Nat.ble as.length 1000 = true) : Ev P (.lst as) e m (.lst xs) m1 := ev_lst h (by rw [evs_len h]; exact lk hl)
/-! comprehensions -/
theorem itL {xs : List α} : itemsD P (eL ea xs) = some (xs.map ea) := rfl
theorem itV {xs : List α} : itemsD P (eV ea xs) = some (xs.map ea) := rfl
theorem trif0 : TrIf P [] e m true m := rfl
theorem trif1 {x : Bool} (h : Tr P a e m x m1) : TrIf P [a] e m x m1 := by
  obtain ⟨v, h1, h2⟩ := h
  unfold TrIf
  simp only [evIfs, h1, h2]
  cases x <;> rfl
theorem lc_one {own : List Nat} {t : T} {ifs : List E} {elt : E} {x : D} {e1 : Env} {b : Bool} {y : D} (h : asgT t x (wipeE e own) = some e1) (hi : TrIf P ifs e1 m b m1) (hy : b = true → Ev P elt e1 m1 y m2) (hm : b = false → m2 = m1) :
    lcF P own t ifs elt e x m = some (if b = true then [y] else [], m2) := by
  unfold TrIf at hi; unfold Ev at hy
  rw [l_f, h]
  show nxt (evIfs P ifs e1 m) _ = _
  rw [hi]
  show (if b = true then _ else _) = _
  cases b
  · rw [hm rfl]; rfl
  · rw [if_pos rfl, if_pos rfl, hy rfl]; rfl
theorem ev_comp {own : List Nat} {t : T} {it elt : E} {ifs : List E} {d : D} {xs : List D} {ys : List β} (hit : Ev P it e m d m1) (hd : itemsD P d = some xs)
    (hb : lcGo (lcF P own t ifs elt e) xs m1 = some (ys.map eb, m2)) {zs : List β} (hl : olen ys = some zs) : Ev P (.comp own t it ifs elt) e m (eL eb zs) m2 := by
  obtain ⟨h1, rfl⟩ := if_inv hl
  unfold Ev at *
  rw [x_comp, hit]
  show nxt (got (itemsD P d) m1) _ = _
  rw [hd]
  show nxt (lcGo (lcF P own t ifs elt e) xs m1) _ = _
  rw [hb]
  show got (okL (lenOk (ys.map eb).length) _) m2 = _
  rw [List.length_map, h1]; rfl
/-- no test; all values are there -/
theorem ev_cmap {own : List Nat} {t : T} {it elt : E} {d : D} {xs : List α} {g : α → β} {zs : List β} (hit : Ev P it e m d m1) (hd : itemsD P d = some (xs.map ea))
    (hb : ∀ x, ∃ e1, asgT t (ea x) (wipeE e own) = some e1 ∧ Ev P elt e1 m1 (eb (g x)) m1) (hl : olen (xs.map g) = some zs) : Ev P (.comp own t it [] elt) e m (eL eb zs) m1 := by
  refine ev_comp hit hd ?_ hl
  clear hl hit hd
  induction xs with
  | nil => rfl
  | cons x xs ih =>
    obtain ⟨e1, h1, h2⟩ := hb x
    simp only [List.map_cons, lcGo, lc_one (b := true) h1 trif0 (fun _ => h2) (fun z => by cases z), if_true, ih]
    rfl
theorem ev_cflt {own : List Nat} {t : T} {it elt q : E} {d : D} {xs : List α} {p : α → Bool} {g : α → β} {zs : List β} (hit : Ev P it e m d m1) (hd : itemsD P d = some (xs.map ea))
    (hb : ∀ x, ∃ e1, asgT t (ea x) (wipeE e own) = some e1 ∧ Tr P q e1 m1 (p x) m1 ∧ Ev P elt e1 m1 (eb (g x)) m1) (hl : olen ((xs.filter p).map g) = some zs) : Ev P (.comp own t it [q] elt) e m (eL eb zs) m1 := by
  refine ev_comp hit hd ?_ hl
  clear hl hit hd
  induction xs with
  | nil => rfl
  | cons x xs ih =>
    obtain ⟨e1, h1, h0, h2⟩ := hb x
    simp only [List.map_cons, lcGo, lc_one h1 (trif1 h0) (fun _ => h2) (fun _ => rfl), ih, List.filter_cons]
    cases p x <;> rfl
/-- no test -/
theorem ev_cmapO {own : List Nat} {t : T} {it elt : E} {d : D} {xs : List α} {f : α → Option β} {ys zs : List β} (hit : Ev P it e m d m1) (hd : itemsD P d = some (xs.map ea)) (hf : mpO f xs = some ys)
    (hb : ∀ x y, f x = some y → ∃ e1, asgT t (ea x) (wipeE e own) = some e1 ∧ Ev P elt e1 m1 (eb y) m1) (hl : olen ys = some zs) : Ev P (.comp own t it [] elt) e m (eL eb zs) m1 := by
  refine ev_comp hit hd ?_ hl
  clear hl hit hd
  induction xs generalizing ys with
  | nil => cases hf; rfl
  | cons x xs ih =>
    obtain ⟨y, q1, hf⟩ := ob_inv hf
    obtain ⟨r, q2, hf⟩ := ob_inv hf
    cases hf
    obtain ⟨e1, h1, h2⟩ := hb x y q1
    simp only [List.map_cons, lcGo, lc_one (b := true) h1 trif0 (fun _ => h2) (fun z => by cases z), if_true, ih q2]
    rfl
theorem ev_cfltO {own : List Nat} {t : T} {it elt q : E} {d : D} {xs : List α} {p : α → Option Bool} {f : α → Option β} {ys zs : List β} (hit : Ev P it e m d m1) (hd : itemsD P d = some (xs.map ea)) (hf : flO p f xs = some ys)
    (hb : ∀ x b, p x = some b → ∃ e1, asgT t (ea x) (wipeE e own) = some e1 ∧ Tr P q e1 m1 b m1 ∧ (b = true → ∀ y, f x = some y → Ev P elt e1 m1 (eb y) m1)) (hl : olen ys = some zs) : Ev P (.comp own t it [q] elt) e m (eL eb zs) m1 := by
  refine ev_comp hit hd ?_ hl
  clear hl hit hd
  induction xs generalizing ys with
  | nil => cases hf; rfl
  | cons x xs ih =>
    obtain ⟨b, q1, hf⟩ := ob_inv hf
    obtain ⟨e1, h1, h0, h2⟩ := hb x b q1
    cases b with
    | true =>
      obtain ⟨y, q2, hf⟩ := ob_inv (cnT rfl hf)
      obtain ⟨r, q3, hf⟩ := ob_inv hf
      cases hf
      simp only [List.map_cons, lcGo, lc_one h1 (trif1 h0) (fun z => h2 z y q2) (fun _ => rfl), ih q3]
      rfl
    | false =>
      have hf := cnF rfl hf
      have h4 : lcF P own t [q] elt e (ea x) m1 = some ([], m1) := lc_one (b := false) (y := .non) (m2 := m1) h1 (trif1 h0) (fun z => by cases z) fun _ => rfl
      simp only [List.map_cons, lcGo, h4, ih hf]
      rfl
/-- with draws -/
theorem ev_cmapS {own : List Nat} {t : T} {it elt : E} {d : D} {xs : List α} {f : α → Sta → Option (β × Sta)} {s : Sta} {ys : List β × Sta} {zs : List β} (hit : Ev P it e m d (eS s)) (hd : itemsD P d = some (xs.map ea)) (hf : mpS f xs s = some ys)
    (hb : ∀ x s y, f x s = some y → ∃ e1, asgT t (ea x) (wipeE e own) = some e1 ∧ Ev P elt e1 (eS s) (eb y.1) (eS y.2)) (hl : olen ys.1 = some zs) : Ev P (.comp own t it [] elt) e m (eL eb zs) (eS ys.2) := by
  refine ev_comp hit hd ?_ hl
  clear hl hit hd
  induction xs generalizing ys s with
  | nil => cases hf; rfl
  | cons x xs ih =>
    obtain ⟨y, q1, hf⟩ := ob_inv hf
    obtain ⟨r, q2, hf⟩ := ob_inv hf
    cases hf
    obtain ⟨e1, h1, h2⟩ := hb x s y q1
    simp only [List.map_cons, lcGo, lc_one (b := true) h1 trif0 (fun _ => h2) (fun z => by cases z), if_true, ih q2]
    rfl
end
/-! ### blocks -/
def Wp (P : Pr) (ss : List S) (e : Env) (m : List D) (Q : R → Prop) : Prop := ∃ r, evSs P ss e m = some r ∧ Q r
/-- what follows a block -/
def Kn (P : Pr) (ss : List S) (Q : R → Prop) : R → Prop | .nx e m => Wp P ss e m Q | .rt d m => Q (.rt d m)
section
variable {P : Pr} {e e1 : Env} {m m1 m2 : List D} {a c : E} {v : D} {ss b as bs : List S} {Q : R → Prop} {α σ ρ : Type} {ea : α → D}
theorem wp_nil (q : Q (.nx e m)) : Wp P [] e m Q := ⟨_, rfl, q⟩
theorem wp_imp {Q' : R → Prop} (h : Wp P ss e m Q) (i : ∀ r, Q r → Q' r) : Wp P ss e m Q' := by obtain ⟨r, h, q⟩ := h; exact ⟨r, h, i r q⟩
theorem wp_s {s : S} (h : ∃ r, evS P s e m = some r ∧ Kn P ss Q r) : Wp P (s :: ss) e m Q := by
  obtain ⟨r, h, q⟩ := h
  cases r with
  | nx e1 m1 =>
    obtain ⟨r, h2, q⟩ := q
    exact ⟨r, by simp only [evSs, h, h2], q⟩
  | rt d m1 => exact ⟨_, by simp only [evSs, h], q⟩
theorem wp_asg {t : T} (h : Ev P a e m v m1) (ha : asgT t v e = some e1) (k : Wp P ss e1 m1 Q) : Wp P (.asg t a :: ss) e m Q := by
  unfold Ev at h
  exact wp_s ⟨.nx e1 m1, by simp only [evS, h, ha], k⟩
theorem wp_ret (h : Ev P a e m v m1) (q : Q (.rt v m1)) : Wp P (.ret a :: ss) e m Q := by
  unfold Ev at h
  exact wp_s ⟨.rt v m1, by simp only [evS, h], q⟩
theorem wp_pass (k : Wp P ss e m Q) : Wp P (.pass :: ss) e m Q := wp_s ⟨.nx e m, by simp only [evS], k⟩
theorem wp_app {x : Nat} {y : α} {xs ys : List α} (h : Ev P a e m (ea y) m1) (hx : getE e x = some (eL ea xs)) (hy : oapp xs y = some ys) (he : e.set x (some (eL ea ys)) = e1) (k : Wp P ss e1 m1 Q) : Wp P (.app x a :: ss) e m Q := by
  obtain ⟨h1, rfl⟩ := if_inv hy
  unfold Ev at h
  refine wp_s ⟨.nx e1 m1, ?_, k⟩
  simp only [evS, h, hx, eL, List.length_map, h1, if_true]
  simp only [eL, List.map_append, List.map_cons, List.map_nil] at he
  rw [he]
theorem wp_pop {x : Nat} {xs ys : List α} (hx : getE e x = some (eL ea xs)) (hy : opop xs = some ys) (he : e.set x (some (eL ea ys)) = e1) (k : Wp P ss e1 m Q) : Wp P (.pop x :: ss) e m Q := by
  unfold opop at hy
  split at hy
  · cases hy
  · rename_i hn
    cases hy
    refine wp_s ⟨.nx e1 m, ?_, k⟩
    have : (xs.map ea).isEmpty = false := by cases xs with | nil => simp at hn | cons _ _ => rfl
    simp only [evS, hx, eL, this, Bool.false_eq_true, if_false]
    simp only [eL, List.map_dropLast] at he
    rw [he]
theorem wp_rem [DecidableEq α] {x d : Nat} [EncOk ea d] (hd : d ≤ 63) {y : α} {xs ys : List α} (h : Ev P a e m (ea y) m1) (hx : getE e x = some (eL ea xs)) (hy : orem xs y = some ys) (he : e.set x (some (eL ea ys)) = e1) (k : Wp P ss e1 m1 Q) : Wp P (.rem x a :: ss) e m Q := by
  unfold Ev at h
  refine wp_s ⟨.nx e1 m1, ?_, k⟩
  simp only [evS, h, hx, eL, remD_ok hd y xs ys hy]
  simp only [eL] at he
  rw [he]
theorem wp_sto {x : Nat} {i : E} {k : Int} {y : α} {xs ys : List α} (h : Ev P a e m (ea y) m1) (hi : Ev P i e m1 (.int k) m2) (hx : getE e x = some (eL ea xs)) (hy : oset xs k y = some ys) (he : e.set x (some (eL ea ys)) = e1) (q : Wp P ss e1 m2 Q) : Wp P (.sto x i a :: ss) e m Q := by
  unfold oset at hy
  cases hj : ixI xs.length k with
  | none => rw [hj] at hy; cases hy
  | some j =>
    rw [hj] at hy
    cases hy
    unfold Ev at h hi
    refine wp_s ⟨.nx e1 m2, ?_, q⟩
    simp only [evS, h, hi, hx, eL, List.length_map, hj]
    simp only [eL, List.map_set] at he
    rw [he]
theorem wp_if {x : Bool} (hc : Tr P c e m x m1) (ht : x = true → Wp P as e m1 (Kn P ss Q)) (hf : x = false → Wp P bs e m1 (Kn P ss Q)) : Wp P (.ifs c as bs :: ss) e m Q := by
  have hc := hc.ev
  cases x with
  | true =>
    obtain ⟨r, h, q⟩ := ht rfl
    exact wp_s ⟨r, by simp only [evS, hc, h], q⟩
  | false =>
    obtain ⟨r, h, q⟩ := hf rfl
    exact wp_s ⟨r, by simp only [evS, hc, h], q⟩
/-- both ways end alike -/
theorem wp_ifj {x : Bool} {K : R → Prop} (hc : Tr P c e m x m1) (ht : x = true → Wp P as e m1 K) (hf : x = false → Wp P bs e m1 K) (k : ∀ r, K r → Kn P ss Q r) : Wp P (.ifs c as bs :: ss) e m Q :=
  wp_if hc (fun h => wp_imp (ht h) k) fun h => wp_imp (hf h) k
theorem wp_for {t : T} {d : D} {xs : List α} {f : σ → α → Option σ} {s0 s1 : σ} (K : σ → R → Prop) (hit : Ev P a e m d m1) (hd : itemsD P d = some (xs.map ea)) (hf : forO f xs s0 = some s1) (h0 : K s0 (.nx e m1))
    (hb : ∀ s x s' r, K s r → f s x = some s' → ∃ e m e1, r = .nx e m ∧ asgT t (ea x) e = some e1 ∧ Wp P b e1 m (K s'))
    (k : ∀ r, K s1 r → Kn P ss Q r) : Wp P (.for_ t a b :: ss) e m Q := by
  unfold Ev at hit
  have key : ∀ (xs : List α) (s : σ) (e : Env) (m : List D), forO f xs s = some s1 → K s (.nx e m) → ∃ r, forGo (fr1 P t b) (xs.map ea) e m = some r ∧ K s1 r := by
    intro xs
    induction xs with
    | nil => intro s e m h q; cases h; exact ⟨_, rfl, q⟩
    | cons x xs ih =>
      intro s e m h q
      obtain ⟨s', h1, h2⟩ := ob_inv h
      obtain ⟨e2, m2, e3, hr, ha, r, hw, q2⟩ := hb s x s' _ q h1
      cases hr
      -- the block may not return: its end is again a state
      cases r with
      | nx e4 m4 =>
        obtain ⟨r, h3, q3⟩ := ih s' e4 m4 h2 q2
        exact ⟨r, by simp only [List.map_cons, forGo, fr1, ha, hw, h3], q3⟩
      | rt d4 m4 =>
        cases xs with
        | nil => cases h2; exact ⟨.rt d4 m4, by simp only [List.map_cons, forGo, fr1, ha, hw], q2⟩
        | cons y ys =>
          obtain ⟨s'', h4, h5⟩ := ob_inv h2
          obtain ⟨_, _, _, z, _⟩ := hb s' y s'' _ q2 h4
          cases z
  obtain ⟨r, h, q⟩ := key xs s0 e m1 hf h0
  exact wp_s ⟨r, by rw [s_for, hit]; show nxt (got (itemsD P d) m1) _ = _; rw [hd]; exact h, k r q⟩
theorem wp_forR {t : T} {d : D} {xs : List α} {f : σ → α → Option (ρ ⊕ σ)} {s0 : σ} {s1 : ρ ⊕ σ} (K : (ρ ⊕ σ) → R → Prop) (hit : Ev P a e m d m1) (hd : itemsD P d = some (xs.map ea)) (hf : forR f xs s0 = some s1) (h0 : K (.inr s0) (.nx e m1))
    (hl : ∀ v r, K (.inl v) r → ∃ d m, r = .rt d m)
    (hb : ∀ s x s' r, K (.inr s) r → f s x = some s' → ∃ e m e1, r = .nx e m ∧ asgT t (ea x) e = some e1 ∧ Wp P b e1 m (K s'))
    (k : ∀ r, K s1 r → Kn P ss Q r) : Wp P (.for_ t a b :: ss) e m Q := by
  unfold Ev at hit
  have key : ∀ (xs : List α) (s : σ) (e : Env) (m : List D), forR f xs s = some s1 → K (.inr s) (.nx e m) → ∃ r, forGo (fr1 P t b) (xs.map ea) e m = some r ∧ K s1 r := by
    intro xs
    induction xs with
    | nil => intro s e m h q; cases h; exact ⟨_, rfl, q⟩
    | cons x xs ih =>
      intro s e m h q
      obtain ⟨s', h1, h2⟩ := ob_inv h
      obtain ⟨e2, m2, e3, hr, ha, r, hw, q2⟩ := hb s x s' _ q h1
      cases hr
      cases s' with
      | inl v =>
        cases h2
        obtain ⟨d, m, rfl⟩ := hl v r q2
        exact ⟨_, by simp only [List.map_cons, forGo, fr1, ha, hw], q2⟩
      | inr s' =>
        cases r with
        | nx e4 m4 =>
          obtain ⟨r, h3, q3⟩ := ih s' e4 m4 h2 q2
          exact ⟨r, by simp only [List.map_cons, forGo, fr1, ha, hw, h3], q3⟩
        | rt d4 m4 =>
          cases xs with
          | nil => cases h2; exact ⟨.rt d4 m4, by simp only [List.map_cons, forGo, fr1, ha, hw], q2⟩
          | cons y ys =>
            obtain ⟨s'', h4, h5⟩ := ob_inv h2
            obtain ⟨_, _, _, z, _⟩ := hb s' y s'' _ q2 h4
            cases z
  obtain ⟨r, h, q⟩ := key xs s0 e m1 hf h0
  exact wp_s ⟨r, by rw [s_for, hit]; show nxt (got (itemsD P d) m1) _ = _; rw [hd]; exact h, k r q⟩
theorem wp_whl {g : σ → Option Bool} {f : σ → Option σ} {s0 s1 : σ} (K : σ → R → Prop) (hf : whO g f P.W s0 = some s1) (h0 : K s0 (.nx e m))
    (hc : ∀ s x r, K s r → g s = some x → ∃ e m, r = .nx e m ∧ Tr P c e m x m)
    (hb : ∀ s s' e m, K s (.nx e m) → f s = some s' → Wp P b e m (K s'))
    (k : ∀ r, K s1 r → Kn P ss Q r) : Wp P (.whl c b :: ss) e m Q := by
  have key : ∀ (n : Nat) (s : σ) (e : Env) (m : List D), whO g f n s = some s1 → K s (.nx e m) → ∃ r, whGo (evC P c) (fun e m => evSs P b e m) n e m = some r ∧ K s1 r := by
    intro n
    induction n with
    | zero => intro s e m h _; cases h
    | succ n ih =>
      intro s e m h q
      obtain ⟨x, h1, h2⟩ := ob_inv h
      obtain ⟨e2, m2, hr, ht⟩ := hc s x _ q h1
      cases hr
      have ht := ht.ev
      cases x with
      | false => cases h2; exact ⟨_, by simp only [whGo, ht], q⟩
      | true =>
        obtain ⟨s', h3, h4⟩ := ob_inv (cnT rfl h2)
        obtain ⟨r, hw, q2⟩ := hb s s' _ _ q h3
        cases r with
        | nx e4 m4 =>
          obtain ⟨r, h5, q5⟩ := ih s' e4 m4 h4 q2
          exact ⟨r, by simp only [whGo, ht, hw, h5], q5⟩
        | rt d4 m4 =>
          exfalso
          cases n with
          | zero => cases h4
          | succ n =>
            obtain ⟨y, h6, _⟩ := ob_inv h4
            obtain ⟨_, _, z, _⟩ := hc s' y _ q2 h6
            cases z
  obtain ⟨r, h, q⟩ := key P.W s0 e m hf h0
  exact wp_s ⟨r, by simp only [evS, h], k r q⟩
theorem wp_whlR {g : σ → Option Bool} {f : σ → Option (ρ ⊕ σ)} {s0 : σ} {s1 : ρ ⊕ σ} (K : (ρ ⊕ σ) → R → Prop) (hf : whR g f P.W s0 = some s1) (h0 : K (.inr s0) (.nx e m))
    (hl : ∀ v r, K (.inl v) r → ∃ d m, r = .rt d m)
    (hc : ∀ s x r, K (.inr s) r → g s = some x → ∃ e m, r = .nx e m ∧ Tr P c e m x m)
    (hb : ∀ s s' e m, K (.inr s) (.nx e m) → f s = some s' → Wp P b e m (K s'))
    (k : ∀ r, K s1 r → Kn P ss Q r) : Wp P (.whl c b :: ss) e m Q := by
  have key : ∀ (n : Nat) (s : σ) (e : Env) (m : List D), whR g f n s = some s1 → K (.inr s) (.nx e m) → ∃ r, whGo (evC P c) (fun e m => evSs P b e m) n e m = some r ∧ K s1 r := by
    intro n
    induction n with
    | zero => intro s e m h _; cases h
    | succ n ih =>
      intro s e m h q
      obtain ⟨x, h1, h2⟩ := ob_inv h
      obtain ⟨e2, m2, hr, ht⟩ := hc s x _ q h1
      cases hr
      have ht := ht.ev
      cases x with
      | false => cases h2; exact ⟨_, by simp only [whGo, ht], q⟩
      | true =>
        obtain ⟨s', h3, h4⟩ := ob_inv (cnT rfl h2)
        obtain ⟨r, hw, q2⟩ := hb s s' _ _ q h3
        cases s' with
        | inl v =>
          cases h4
          obtain ⟨d, m, rfl⟩ := hl v r q2
          exact ⟨_, by simp only [whGo, ht, hw], q2⟩
        | inr s' =>
        cases r with
        | nx e4 m4 =>
          obtain ⟨r, h5, q5⟩ := ih s' e4 m4 h4 q2
          exact ⟨r, by simp only [whGo, ht, hw, h5], q5⟩
        | rt d4 m4 =>
          exfalso
          cases n with
          | zero => cases h4
          | succ n =>
            obtain ⟨y, h6, _⟩ := ob_inv h4
            obtain ⟨_, _, z, _⟩ := hc s' y _ q2 h6
            cases z
  obtain ⟨r, h, q⟩ := key P.W s0 e m hf h0
  exact wp_s ⟨r, by simp only [evS, h], k r q⟩
end
/-- what a call gives -/
def rvR : R → D × List D | .rt d m => (d, m) | .nx _ m => (.non, m)
theorem call_wp {fns : List Fn} {ns : List Int} {W k i : Nat} {xs : List D} {f : Fn} {m : List D} {r : D × List D} (h : fns[i]? = some f) (hl : xs.length = f.np)
    (w : Wp ⟨ns, W, callK fns ns W k⟩ f.body (xs.map some ++ List.replicate (f.nn - xs.length) none) m fun q => rvR q = r) : callK fns ns W (k + 1) i xs m = some r := by
  obtain ⟨q, h2, rfl⟩ := w
  rw [ck_s h hl, h2]
  cases q <;> rfl
end Zz
/-! ZDr: what the laws draw; what they hold against each other. -/
namespace Zz
open PySem
/-- turns that a loop may take -/
abbrev WW : Nat := 100000
section
variable {P : Pr} {e e1 : Env} {m m1 m2 : List D} {a b i : E} {v : D} {ss : List S} {Q : R → Prop} {fns : List Fn} {ns : List Int} {k j r : Nat}
theorem wp_stS {x : Nat} {k : Int} {j : Nat} (h : Ev P a e m v m1) (hi : Ev P i e m1 (.int k) m2) (hx : getE e x = some .st) (hj : ixI m2.length k = some j) (q : Wp P ss e (m2.set j v) Q) : Wp P (.stS x i a :: ss) e m Q := by
  unfold Ev at *
  exact wp_s ⟨.nx e (m2.set j v), by simp only [evS, h, hi, hx, hj], q⟩
def bRefill : List S := [
    .asg (.var 2) (.lit (.int 0)),
    .ifs (.var 0) [
      .asg (.var 2) (.ix (.var 0) (.op .mod (.var 1) (.bi .len [(.var 0)])))] [],
    .ifs (.cmp (.var 2) [.lt] [(.lit (.int 0))]) [
      .asg (.var 2) (.op .sub (.lit (.int 1)) (.op .mul (.lit (.int 2)) (.var 2)))] [],
    .ifs (.and [(.cmp (.var 2) [.ge] [(.op .pow (.lit (.int 10)) (.lit (.int 18)))]), (.cmp (.var 1) [.lt] [(.bi .len [(.var 0)])])]) [
      .ret (.var 2)] [],
    .ret (.op .mod (.bi .int1 [(.op .add (.op .mul (.bi .int1 [(.op .add (.op .add (.op .mul (.var 2) (.lit (.int 48271))) (.op .mul (.var 1) (.lit (.int 69621)))) (.lit (.int 12345)))]) (.lit (.int 40692))) (.lit (.int 7)))]) (.lit (.int 2147483399)))]
def bDraw (r : Nat) : List S := [
    .ifs (.cmp (.ix (.var 0) (.lit (.int 1))) [.eq] [(.lit (.int 0))]) [
      .stS 0 (.lit (.int 1)) (.call r false [(.var 1), (.ix (.var 0) (.lit (.int 0)))]),
      .stS 0 (.lit (.int 0)) (.op .add (.ix (.var 0) (.lit (.int 0))) (.lit (.int 1)))] [],
    .asg (.var 3) (.op .mod (.bi .int1 [(.ix (.var 0) (.lit (.int 1)))]) (.var 2)),
    .stS 0 (.lit (.int 1)) (.op .fdiv (.ix (.var 0) (.lit (.int 1))) (.var 2)),
    .ret (.var 3)]
theorem modI_rng {a b : Int} (h : 0 < b) : 0 ≤ modI a b ∧ modI a b < b := by
  unfold modI; rw [if_pos h]
  exact ⟨Int.emod_nonneg _ (by omega), Int.emod_lt_of_pos _ h⟩
def rf1 (ns : List Int) (c : Int) : Int := bif !ns.isEmpty then (ns[(modI c (ns.length : Int)).toNat]?).getD 0 else 0
def rf2 (x : Int) : Int := bif decide (x < 0) then 1 - 2 * x else x
def refill (ns : List Int) (c : Int) : Int :=
  bif decide ((1000000000000000000 : Int) ≤ rf2 (rf1 ns c)) && decide (c < (ns.length : Int)) then rf2 (rf1 ns c) else modI ((rf2 (rf1 ns c) * 48271 + c * 69621 + 12345) * 40692 + 7) 2147483399
theorem c_refill {c : Int} (hr : fns[r]? = some ⟨2, 3, bRefill⟩) : callK fns ns WW (k + 1) r [.scr, .int c] m = some (.int (refill ns c), m) := by
  refine call_wp hr rfl ?_
  show Wp ⟨ns, WW, callK fns ns WW k⟩ bRefill [some .scr, some (.int c), none] m _
  generalize hP : (⟨ns, WW, callK fns ns WW k⟩ : Pr) = P
  have hn : P.ns = ns := by rw [← hP]
  refine wp_asg (e1 := [some .scr, some (.int c), some (.int 0)]) ev_lit rfl ?_
  refine wp_ifj (K := fun q => q = .nx [some .scr, some (.int c), some (.int (rf1 ns c))] m) (tr_scr (ev_var rfl)) (fun h => ?_) (fun h => ?_) ?_
  · rw [hn] at h
    have hl : (0 : Int) < (ns.length : Int) := by cases ns with | nil => cases h | cons _ _ => simp
    obtain ⟨g0, g1⟩ := modI_rng (a := c) hl
    have hlt : (modI c (ns.length : Int)).toNat < ns.length := by omega
    have hx : ixD P m .scr (.int (modI c (ns.length : Int))) = some (.int (rf1 ns c)) := by
      simp only [ixD, hn, ixI, if_pos g0, if_pos g1, Option.bind_some, List.getElem?_eq_getElem hlt, Option.map_some, rf1, h, cond_true, Option.getD_some]
    have hm : omod c (ns.length : Int) = some (modI c (ns.length : Int)) := if_pos (by simp; intro e; rw [e] at hl; simp at hl)
    have hl2 : Ev P (.bi .len [(.var 0)]) [some .scr, some (.int c), some (.int 0)] m (.int (ns.length : Int)) m := by rw [← hn]; exact ev_bi1 (ev_var rfl) b_lenS
    exact wp_asg (ev_ix (ev_var rfl) (ev_mod (ev_var rfl) hl2 hm) hx) rfl (wp_nil rfl)
  · rw [hn] at h
    exact wp_nil (by rw [rf1, h]; rfl)
  · rintro q rfl
    change Wp _ _ _ _ _
    refine wp_ifj (K := fun q => q = .nx [some .scr, some (.int c), some (.int (rf2 (rf1 ns c)))] m) (tr_bl (ev_cmp1 (ev_var rfl) ev_lit q_lt)) (fun h => ?_) (fun h => ?_) ?_
    · exact wp_asg (ev_sub ev_lit (ev_mul ev_lit (ev_var rfl) (if_pos (mulOk_s (by decide))))) rfl (wp_nil (by simp only [rf2, h, cond_true]; rfl))
    · exact wp_nil (by simp only [rf2, h, cond_false])
    · rintro q rfl
      change Wp _ _ _ _ _
      have hlen : Ev P (.bi .len [(.var 0)]) [some .scr, some (.int c), some (.int (rf2 (rf1 ns c)))] m (.int (ns.length : Int)) m := by rw [← hn]; exact ev_bi1 (ev_var rfl) b_lenS
      refine wp_if (tr_and (tr_bl (ev_cmp1 (ev_var rfl) (ev_pow (z := 1000000000000000000) ev_lit ev_lit rfl) q_ge)) fun _ => tr_and1 (tr_bl (ev_cmp1 (ev_var rfl) hlen q_lt))) (fun h => ?_) (fun h => ?_)
      · exact wp_ret (ev_var rfl) (by show (_, _) = _; rw [refill, h]; rfl)
      · refine wp_nil ?_
        change Wp _ _ _ _ _
        have q : ∀ (i j : Int), j.natAbs < 18446744073709551616 → omul i j = some (i * j) := fun i j h => if_pos (mulOk_r h)
        exact wp_ret (ev_mod (ev_bi1 (ev_add (ev_mul (ev_bi1 (ev_add (ev_add (ev_mul (ev_var rfl) ev_lit (q _ _ (by decide))) (ev_mul (ev_var rfl) ev_lit (q _ _ (by decide)))) ev_lit) b_int) ev_lit (q _ _ (by decide))) ev_lit) b_int) ev_lit rfl) (by show (_, _) = _; rw [refill, h]; rfl)
/-- a number is drawn -/
def drX (ns : List Int) (s : Sta) : Int := bif s.2 == 0 then refill ns s.1 else s.2
def drC (s : Sta) : Int := bif s.2 == 0 then s.1 + 1 else s.1
def o_draw (ns : List Int) (z : Int) (s : Sta) : Option (Int × Sta) :=
  if decide (0 < z) && decide (z < 1000000000) then some (modI (drX ns s) z, drC s, divI (drX ns s) z) else none
theorem c_draw {z : Int} {s : Sta} {p : Int × Sta} (hj : fns[j]? = some ⟨3, 4, bDraw r⟩) (hr : fns[r]? = some ⟨2, 3, bRefill⟩) (h : o_draw ns z s = some p) : callK fns ns WW (k + 2) j [.st, .scr, .int z] (eS s) = some (.int p.1, eS p.2) := by
  obtain ⟨hz, rfl⟩ := if_inv h
  simp only [Bool.and_eq_true, decide_eq_true_eq] at hz
  obtain ⟨c, x⟩ := s
  refine call_wp hj rfl ?_
  show Wp ⟨ns, WW, callK fns ns WW (k + 1)⟩ (bDraw r) [some .st, some .scr, some (.int z), none] [.int c, .int x] _
  have hcl : ∀ m, (Pr.mk ns WW (callK fns ns WW (k + 1))).call r [.scr, .int c] m = some (.int (refill ns c), m) := fun m => c_refill hr
  generalize (⟨ns, WW, callK fns ns WW (k + 1)⟩ : Pr) = P at *
  have i0 : ∀ c x : Int, Ev P (.ix (.var 0) (.lit (.int 0))) [some .st, some .scr, some (.int z), none] [.int c, .int x] (.int c) [.int c, .int x] := fun c x => ev_ix (ev_var rfl) ev_lit rfl
  refine wp_ifj (K := fun q => q = .nx [some .st, some .scr, some (.int z), none] [.int (drC (c, x)), .int (drX ns (c, x))]) (x := x == 0) (tr_bl (ev_cmp1 (y := .int 0) (ev_ix (z := .int x) (ev_var rfl) ev_lit rfl) ev_lit rfl)) (fun h => ?_) (fun h => ?_) ?_
  · refine wp_stS (k := 1) (j := 1) (ev_call (r := (.int (refill ns c), [.int c, .int x])) (evs_cons (ev_var rfl) (evs_cons (i0 c x) evs_nil)) (hcl _)) ev_lit rfl rfl ?_
    refine wp_stS (k := 0) (j := 0) (ev_add (i0 c (refill ns c)) ev_lit) ev_lit rfl rfl (wp_nil ?_)
    simp only [drC, drX, h, cond_true]; rfl
  · refine wp_nil ?_
    simp only [drC, drX, h, cond_false]
  · rintro q rfl
    change Wp _ _ _ _ _
    generalize drX ns (c, x) = y
    generalize drC (c, x) = c'
    have hm : omod y z = some (modI y z) := if_pos (by simp; omega)
    have hd : odiv y z = some (divI y z) := if_pos (by
      have e1 : decide (z ≠ 0) = true := by simp; omega
      have e2 : decide (z.natAbs.log2 < 9000) = true := by
        rw [decide_eq_true_eq]
        rcases Nat.eq_zero_or_pos z.natAbs with h | h
        · rw [h]; decide
        · exact Nat.lt_of_lt_of_le ((Nat.log2_lt (k := 30) (by omega)).mpr (by omega)) (by omega)
      unfold divOk; rw [e1, e2]; rfl)
    refine wp_asg (e1 := [some .st, some .scr, some (.int z), some (.int (modI y z))]) (ev_mod (ev_bi1 (ev_ix (z := .int y) (ev_var rfl) ev_lit rfl) b_int) (ev_var rfl) hm) rfl ?_
    refine wp_stS (k := 1) (j := 1) (ev_div (ev_ix (z := .int y) (ev_var rfl) ev_lit rfl) (ev_var rfl) hd) ev_lit rfl rfl ?_
    exact wp_ret (ev_var rfl) rfl
theorem draw_ok {z : Int} {s : Sta} (h0 : 0 < z) (h1 : z < 1000000000) : ∃ d s', o_draw ns z s = some (d, s') ∧ 0 ≤ d ∧ d < z :=
  ⟨modI (drX ns s) z, _, if_pos (by simp [h0, h1]), (modI_rng h0).1, (modI_rng h0).2⟩
/-! ### _law_exact of a value with itself -/
def bExact (x : Nat) : List S := [
    .ifs (.isi [.list, .tuple] (.var 0)) [
      .ifs (.or [(.cmp (.isi [.list] (.var 0)) [.ne] [(.isi [.list] (.var 1))]), (.cmp (.isi [.tuple] (.var 0)) [.ne] [(.isi [.tuple] (.var 1))])]) [
        .ret (.lit (.bl false))] [],
      .ret (.and [(.cmp (.bi .len [(.var 0)]) [.eq] [(.bi .len [(.var 1)])]), (.bi .all [(.comp [2] (.var 2) (.bi .range [(.bi .len [(.var 0)])]) [] (.call x false [(.ix (.var 0) (.var 2)), (.ix (.var 1) (.var 2))]))])])] [],
    .ifs (.or [(.cmp (.var 0) [.is] [(.lit (.non))]), (.cmp (.var 1) [.is] [(.lit (.non))])]) [
      .ret (.and [(.cmp (.var 0) [.is] [(.lit (.non))]), (.cmp (.var 1) [.is] [(.lit (.non))])])] [],
    .asg (.var 3) (.and [(.cmp (.isi [.str] (.var 0)) [.eq] [(.isi [.str] (.var 1))]), (.cmp (.isi [.bool] (.var 0)) [.eq] [(.isi [.bool] (.var 1))])]),
    .ret (.and [(.var 3), (.cmp (.isi [.int] (.var 0)) [.eq] [(.isi [.int] (.var 1))]), (.cmp (.var 0) [.eq] [(.var 1)])])]
mutual
def pl : Nat → D → Bool
  | _, .int _ => true
  | _, .bl _ => true
  | _, .non => true
  | n + 1, .lst xs => pls n xs && decide (xs.length ≤ 100000)
  | n + 1, .tup xs => pls n xs && decide (xs.length ≤ 100000)
  | _, _ => false
def pls : Nat → List D → Bool
  | _, [] => true
  | n, x :: xs => pl n x && pls n xs
end
theorem pls_get : ∀ {n : Nat} {xs : List D} {i : Nat} {x : D}, pls n xs = true → xs[i]? = some x → pl n x = true
  | n, [], i, x, _, e => by simp at e
  | n, y :: xs, 0, x, h, e => by
    simp only [pls, Bool.and_eq_true] at h
    simp at e; subst e; exact h.1
  | n, y :: xs, i + 1, x, h, e => by
    simp only [pls, Bool.and_eq_true] at h
    exact pls_get (i := i) h.2 (by simpa using e)
theorem all_tt {α : Type} : ∀ l : List α, allD (l.map fun _ => D.bl true) = some (.bl true)
  | [] => rfl
  | x :: l => by
    have h : boolsD (l.map fun _ => D.bl true) = some (l.map fun _ => true) := by
      induction l with
      | nil => rfl
      | cons y l ih => rw [List.map_cons, List.map_cons]; simp only [boolsD, ih]
    rw [List.map_cons, allD]
    simp only [boolsD, h]
    simp
theorem ex_atom {x : Nat} {d : D} (hx : fns[x]? = some ⟨2, 4, bExact x⟩) (hd : (∃ i, d = .int i) ∨ (∃ b, d = .bl b) ∨ d = .non) : callK fns ns WW (k + 1) x [d, d] m = some (.bl true, m) := by
  rw [ck_s hx rfl]
  show fnEnd (evSs ⟨ns, WW, callK fns ns WW k⟩ (bExact x) [some d, some d, none, none] m) = _
  generalize (⟨ns, WW, callK fns ns WW k⟩ : Pr) = P
  have q1 : ([Ty.list, Ty.tuple].any fun t => isT t d) = false := by rcases hd with ⟨i, rfl⟩ | ⟨b, rfl⟩ | rfl <;> rfl
  have q5 : ∀ b, cmpD .eq (.bl b) (.bl b) = some true := fun b => by cases b <;> rfl
  rcases hd with ⟨i, rfl⟩ | ⟨b, rfl⟩ | rfl
  · have q7 : isN (.int i) = false := rfl
    simp -implicitDefEqProofs only [bExact, s_cons, s_nil, s_asg, s_ifs, s_ret, s_app, x_var, x_lit, x_op, x_neg, x_cmp, x_ch1, x_ch2, x_and1, x_and2, x_or1, x_or2, x_not, x_ite, x_tup, x_lst, x_nil, x_cons, x_ix, x_bi, x_isi, x_call, x_comp, x_ifs0, x_ifs1, nxt_some, got_some, nxE_some, thn_nx, thn_rt, brB_t, brB_f, brB_i, okL_t, ite_some, ite_bl, ite_int, ite_lst, ite_and, ite_and', ite_or, ite_or', g_0, g_s, p_0, p_s, p_c, a_var, a_tt, a_tl, a_n, thE_some, a_c, w_n, w_c, o_addi, o_subi, o_muli, o_divi, o_modi, o_addl, n_int, c_lt, c_le, c_gt, c_ge, c_eq, c_ne, c_is, c_isn, t_bl, t_int, t_lst, i_lst, i_tup, v_lst, v_tup, f_len, f_lent, f_abs, f_int, f_intb, f_max, f_min, f_list, f_tup, f_enl, f_sum, f_srt, f_lset, f_all, l_f, l_n, l_c, kE_some, u_0, u_s, o_addt, fg_nil, fg_cons, fr_1, c_ev, Bool.false_eq_true, ↓reduceIte, q1, q5, q7, beq_self_eq_true, Bool.and_self, fe_rt, if_true]
  · have q7 : isN (.bl b) = false := rfl
    simp -implicitDefEqProofs only [bExact, s_cons, s_nil, s_asg, s_ifs, s_ret, s_app, x_var, x_lit, x_op, x_neg, x_cmp, x_ch1, x_ch2, x_and1, x_and2, x_or1, x_or2, x_not, x_ite, x_tup, x_lst, x_nil, x_cons, x_ix, x_bi, x_isi, x_call, x_comp, x_ifs0, x_ifs1, nxt_some, got_some, nxE_some, thn_nx, thn_rt, brB_t, brB_f, brB_i, okL_t, ite_some, ite_bl, ite_int, ite_lst, ite_and, ite_and', ite_or, ite_or', g_0, g_s, p_0, p_s, p_c, a_var, a_tt, a_tl, a_n, thE_some, a_c, w_n, w_c, o_addi, o_subi, o_muli, o_divi, o_modi, o_addl, n_int, c_lt, c_le, c_gt, c_ge, c_eq, c_ne, c_is, c_isn, t_bl, t_int, t_lst, i_lst, i_tup, v_lst, v_tup, f_len, f_lent, f_abs, f_int, f_intb, f_max, f_min, f_list, f_tup, f_enl, f_sum, f_srt, f_lset, f_all, l_f, l_n, l_c, kE_some, u_0, u_s, o_addt, fg_nil, fg_cons, fr_1, c_ev, Bool.false_eq_true, ↓reduceIte, q1, q5, q7, beq_self_eq_true, Bool.and_self, fe_rt, if_true]
  · have q7 : isN .non = true := rfl
    simp -implicitDefEqProofs only [bExact, s_cons, s_nil, s_asg, s_ifs, s_ret, s_app, x_var, x_lit, x_op, x_neg, x_cmp, x_ch1, x_ch2, x_and1, x_and2, x_or1, x_or2, x_not, x_ite, x_tup, x_lst, x_nil, x_cons, x_ix, x_bi, x_isi, x_call, x_comp, x_ifs0, x_ifs1, nxt_some, got_some, nxE_some, thn_nx, thn_rt, brB_t, brB_f, brB_i, okL_t, ite_some, ite_bl, ite_int, ite_lst, ite_and, ite_and', ite_or, ite_or', g_0, g_s, p_0, p_s, p_c, a_var, a_tt, a_tl, a_n, thE_some, a_c, w_n, w_c, o_addi, o_subi, o_muli, o_divi, o_modi, o_addl, n_int, c_lt, c_le, c_gt, c_ge, c_eq, c_ne, c_is, c_isn, t_bl, t_int, t_lst, i_lst, i_tup, v_lst, v_tup, f_len, f_lent, f_abs, f_int, f_intb, f_max, f_min, f_list, f_tup, f_enl, f_sum, f_srt, f_lset, f_all, l_f, l_n, l_c, kE_some, u_0, u_s, o_addt, fg_nil, fg_cons, fr_1, c_ev, Bool.false_eq_true, ↓reduceIte, q1, q5, q7, beq_self_eq_true, Bool.and_self, fe_rt, if_true]
theorem ex_seq {x : Nat} (hx : fns[x]? = some ⟨2, 4, bExact x⟩) {n : Nat} (ih : ∀ d : D, pl n d = true → callK fns ns WW (k + 1) x [d, d] m = some (.bl true, m)) {xs : List D} {d : D} (hd : d = .lst xs ∨ d = .tup xs) (h : pls n xs = true) (hl : xs.length ≤ 100000) :
    callK fns ns WW (k + 2) x [d, d] m = some (.bl true, m) := by
  rw [ck_s hx rfl]
  show fnEnd (evSs ⟨ns, WW, callK fns ns WW (k + 1)⟩ (bExact x) [some d, some d, none, none] m) = _
  have hc := l_mapI (m := m) (f := lcF ⟨ns, WW, callK fns ns WW (k + 1)⟩ [2] (.var 2) [] (.call x false [(.ix (.var 0) (.var 2)), (.ix (.var 1) (.var 2))]) [some d, some d, none, none])
    (g := fun _ => .bl true) (is := rng 0 xs.length) fun i hi => by
      have hi2 := mem_rng.mp hi
      have hlt : i.toNat < xs.length := by omega
      have hat : at_ xs i = some xs[i.toNat] := by rw [at_get hi2.1 (by omega), List.getElem?_eq_getElem hlt]
      have hix : ∀ P : Pr, ixD P m d (.int i) = some xs[i.toNat] := fun P => by rcases hd with rfl | rfl <;> exact hat
      have hcl := ih xs[i.toNat] (pls_get h (List.getElem?_eq_getElem hlt))
      simp -implicitDefEqProofs only [s_cons, s_nil, s_asg, s_ifs, s_ret, s_app, x_var, x_lit, x_op, x_neg, x_cmp, x_ch1, x_ch2, x_and1, x_and2, x_or1, x_or2, x_not, x_ite, x_tup, x_lst, x_nil, x_cons, x_ix, x_bi, x_isi, x_call, x_comp, x_ifs0, x_ifs1, nxt_some, got_some, nxE_some, thn_nx, thn_rt, brB_t, brB_f, brB_i, okL_t, ite_some, ite_bl, ite_int, ite_lst, ite_and, ite_and', ite_or, ite_or', g_0, g_s, p_0, p_s, p_c, a_var, a_tt, a_tl, a_n, thE_some, a_c, w_n, w_c, o_addi, o_subi, o_muli, o_divi, o_modi, o_addl, n_int, c_lt, c_le, c_gt, c_ge, c_eq, c_ne, c_is, c_isn, t_bl, t_int, t_lst, i_lst, i_tup, v_lst, v_tup, f_len, f_lent, f_abs, f_int, f_intb, f_max, f_min, f_list, f_tup, f_enl, f_sum, f_srt, f_lset, f_all, l_f, l_n, l_c, kE_some, u_0, u_s, o_addt, fg_nil, fg_cons, fr_1, c_ev, Bool.false_eq_true, ↓reduceIte, hix, hcl, if_true]
  have hlen : ∀ P : Pr, biD P .len [d] = some (.int xs.length) := fun P => by rcases hd with rfl | rfl <;> rfl
  have hl2 : lenOk ((rng 0 xs.length).map fun _ => D.bl true).length = true := lenOk_le (by rw [List.length_map, len_rng]; omega)
  have q5 : ∀ b, cmpD .ne (.bl b) (.bl b) = some false := fun b => by cases b <;> rfl
  have q1 : ([Ty.list, Ty.tuple].any fun t => isT t d) = true := by rcases hd with rfl | rfl <;> rfl
  have hr := f_rngS (P := ⟨ns, WW, callK fns ns WW (k + 1)⟩) (j := (xs.length : Int)) (by omega) (by omega)
  rw [Int.toNat_natCast] at hr
  simp -implicitDefEqProofs only [bExact, s_cons, s_nil, s_asg, s_ifs, s_ret, s_app, x_var, x_lit, x_op, x_neg, x_cmp, x_ch1, x_ch2, x_and1, x_and2, x_or1, x_or2, x_not, x_ite, x_tup, x_lst, x_nil, x_cons, x_ix, x_bi, x_isi, x_call, x_comp, x_ifs0, x_ifs1, nxt_some, got_some, nxE_some, thn_nx, thn_rt, brB_t, brB_f, brB_i, okL_t, ite_some, ite_bl, ite_int, ite_lst, ite_and, ite_and', ite_or, ite_or', g_0, g_s, p_0, p_s, p_c, a_var, a_tt, a_tl, a_n, thE_some, a_c, w_n, w_c, o_addi, o_subi, o_muli, o_divi, o_modi, o_addl, n_int, c_lt, c_le, c_gt, c_ge, c_eq, c_ne, c_is, c_isn, t_bl, t_int, t_lst, i_lst, i_tup, v_lst, v_tup, f_len, f_lent, f_abs, f_int, f_intb, f_max, f_min, f_list, f_tup, f_enl, f_sum, f_srt, f_lset, f_all, l_f, l_n, l_c, kE_some, u_0, u_s, o_addt, fg_nil, fg_cons, fr_1, c_ev, Bool.false_eq_true, ↓reduceIte, q1, q5, hlen, hr, hc, hl2, all_tt, beq_self_eq_true, fe_rt, if_true]
theorem ex_ok {x : Nat} (hx : fns[x]? = some ⟨2, 4, bExact x⟩) : ∀ (n : Nat) (d : D), pl n d = true → callK fns ns WW (k + n + 1) x [d, d] m = some (.bl true, m)
  | n, .int i, _ => ex_atom hx (.inl ⟨i, rfl⟩)
  | n, .bl b, _ => ex_atom hx (.inr (.inl ⟨b, rfl⟩))
  | n, .non, _ => ex_atom hx (.inr (.inr rfl))
  | n + 1, .lst xs, h => by
    simp only [pl, Bool.and_eq_true, decide_eq_true_eq] at h
    exact ex_seq (k := k + n) hx (fun d hd => ex_ok hx n d hd) (.inl rfl) h.1 h.2
  | n + 1, .tup xs, h => by
    simp only [pl, Bool.and_eq_true, decide_eq_true_eq] at h
    exact ex_seq (k := k + n) hx (fun d hd => ex_ok hx n d hd) (.inr rfl) h.1 h.2
  | 0, .lst _, h => by simp [pl] at h
  | 0, .tup _, h => by simp [pl] at h
  | 0, .str _, h => by simp [pl] at h
  | 0, .scr, h => by simp [pl] at h
  | 0, .st, h => by simp [pl] at h
  | n + 1, .str _, h => by simp [pl] at h
  | n + 1, .scr, h => by simp [pl] at h
  | n + 1, .st, h => by simp [pl] at h
mutual
/-- are two trees one? -/
def eqT : D → D → Bool
  | .non, .non => true
  | .bl a, .bl b => a == b
  | .int a, .int b => a == b
  | .lst xs, .lst ys => eqTs xs ys
  | .tup xs, .tup ys => eqTs xs ys
  | _, _ => false
def eqTs : List D → List D → Bool
  | [], [] => true
  | x :: xs, y :: ys => eqT x y && eqTs xs ys
  | _, _ => false
end
mutual
theorem eqT_eq : ∀ {a b : D}, eqT a b = true → a = b
  | .non, b, h => by cases b <;> first | rfl | cases h
  | .bl x, b, h => by cases b <;> first | cases h | skip
                      simp only [eqT, beq_iff_eq] at h; rw [h]
  | .int x, b, h => by cases b <;> first | cases h | skip
                       simp only [eqT, beq_iff_eq] at h; rw [h]
  | .str x, b, h => by cases b <;> cases h
  | .lst xs, b, h => by cases b <;> first | cases h | skip
                        simp only [eqT] at h; rw [eqTs_eq h]
  | .tup xs, b, h => by cases b <;> first | cases h | skip
                        simp only [eqT] at h; rw [eqTs_eq h]
  | .scr, b, h => by cases b <;> cases h
  | .st, b, h => by cases b <;> cases h
theorem eqTs_eq : ∀ {a b : List D}, eqTs a b = true → a = b
  | [], b, h => by cases b with | nil => rfl | cons _ _ => cases h
  | x :: xs, b, h => by
    cases b with
    | nil => cases h
    | cons y ys =>
      simp only [eqTs, Bool.and_eq_true] at h
      rw [eqT_eq h.1, eqTs_eq h.2]
end
mutual
theorem eqT_rfl : ∀ {n : Nat} {a : D}, pl n a = true → eqT a a = true
  | _, .non, h => rfl
  | _, .bl x, h => by simp only [eqT, beq_self_eq_true]
  | _, .int x, h => by simp only [eqT, beq_self_eq_true]
  | n, .str x, h => by cases n <;> simp [pl] at h
  | 0, .lst xs, h => by simp [pl] at h
  | 0, .tup xs, h => by simp [pl] at h
  | n + 1, .lst xs, h => by
    simp only [pl, Bool.and_eq_true] at h
    simp only [eqT, eqTs_rfl h.1]
  | n + 1, .tup xs, h => by
    simp only [pl, Bool.and_eq_true] at h
    simp only [eqT, eqTs_rfl h.1]
  | n, .scr, h => by cases n <;> simp [pl] at h
  | n, .st, h => by cases n <;> simp [pl] at h
theorem eqTs_rfl : ∀ {n : Nat} {a : List D}, pls n a = true → eqTs a a = true
  | _, [], _ => rfl
  | n, x :: xs, h => by
    simp only [pls, Bool.and_eq_true] at h
    simp only [eqTs, eqT_rfl h.1, eqTs_rfl h.2, Bool.and_self]
end
/-- a value that holds itself against itself -/
def oex (a b : D) : Option Bool := if eqT a b && pl 8 a then some true else none
theorem oex_ok {a b : D} (h : a = b) (hp : pl 8 a = true) : oex a b = some true := by
  subst h; exact if_pos (by rw [eqT_rfl hp, hp]; rfl)
theorem c_exact {x : Nat} {a b : D} {q : Bool} (hx : fns[x]? = some ⟨2, 4, bExact x⟩) (h : oex a b = some q) : callK fns ns WW (k + 9) x [a, b] m = some (.bl q, m) := by
  obtain ⟨h1, rfl⟩ := if_inv h
  simp only [Bool.and_eq_true] at h1
  obtain rfl := eqT_eq h1.1
  exact ex_ok hx 8 a h1.2
end
end Zz
/-! ZQ: plain lemmas about typed functions that may fail. -/
namespace Zz
open PySem
section
variable {α β γ ρ σ : Type} {Q : β → Prop}
/-- it gives a value, which is so -/
def Ok (o : Option β) (Q : β → Prop) : Prop := ∃ r, o = some r ∧ Q r
theorem ok_some {r : β} (q : Q r) : Ok (some r) Q := ⟨r, rfl, q⟩
theorem ok_eq {x : Option α} {y : α} {f : α → Option β} (h : x = some y) (k : Ok (f y) Q) : Ok (ob x f) Q := by rw [h]; exact k
theorem ok_ob {x : Option α} {R : α → Prop} {f : α → Option β} (h : Ok x R) (k : ∀ y, R y → Ok (f y) Q) : Ok (ob x f) Q := by
  obtain ⟨y, h, q⟩ := h
  rw [h]; exact k y q
theorem ok_so {y : α} {f : α → Option β} (k : Ok (f y) Q) : Ok (ob (some y) f) Q := k
theorem ok_t {c : Bool} {A B : Option β} (hc : c = true) (k : Ok A Q) : Ok (bif c then A else B) Q := by subst hc; exact k
theorem ok_f {c : Bool} {A B : Option β} (hc : c = false) (k : Ok B Q) : Ok (bif c then A else B) Q := by subst hc; exact k
theorem ok_c {c : Bool} {A B : Option β} (k1 : c = true → Ok A Q) (k2 : c = false → Ok B Q) : Ok (bif c then A else B) Q := by
  cases c with
  | true => exact k1 rfl
  | false => exact k2 rfl
theorem ok_imp {o : Option β} {Q' : β → Prop} (h : Ok o Q) (k : ∀ r, Q r → Q' r) : Ok o Q' := by obtain ⟨r, h, q⟩ := h; exact ⟨r, h, k r q⟩
theorem ok_sim {x : Option α} {f : α → Option γ} {g : α → Option β} {r : γ} (h : ob x f = some r) (k : ∀ y, x = some y → f y = some r → Ok (g y) Q) : Ok (ob x g) Q := by
  obtain ⟨y, h1, h2⟩ := ob_inv h
  rw [h1]; exact k y h1 h2
theorem ok_simc {c : Bool} {A : Option β} {B : Option γ} {B' : Option β} {r : γ} (h : (bif c then none else B) = some r) (k : c = false → B = some r → Ok B' Q) : Ok (bif c then A else B') Q := by
  cases c with
  | true => cases h
  | false => exact k rfl h
theorem ok_dr {ns : List Int} {z : Int} {s : Sta} {f : Int × Sta → Option β} (h0 : 0 < z) (h1 : z < 1000000000) (k : ∀ d s', 0 ≤ d → d < z → Ok (f (d, s')) Q) : Ok (ob (o_draw ns z s) f) Q := by
  obtain ⟨d, s', h, a, b⟩ := draw_ok (ns := ns) (s := s) h0 h1
  rw [h]; exact k d s' a b
theorem forR_all {f : σ → α → Option (ρ ⊕ σ)} (R : σ → Prop) : ∀ {xs : List α} {s : σ}, (∀ s x, x ∈ xs → R s → Ok (f s x) fun r => ∃ s', r = .inr s' ∧ R s') → R s → Ok (forR f xs s) fun r => ∃ s', r = .inr s' ∧ R s'
  | [], s, _, h => ok_some ⟨s, rfl, h⟩
  | x :: xs, s, k, h => by
    obtain ⟨r, h1, s', rfl, h2⟩ := k s x List.mem_cons_self h
    unfold forR
    rw [h1]
    exact forR_all R (fun s x hx => k s x (List.mem_cons_of_mem _ hx)) h2
theorem forO_all {f : σ → α → Option σ} (R : σ → Prop) : ∀ {xs : List α} {s : σ}, (∀ s x, x ∈ xs → R s → Ok (f s x) R) → R s → Ok (forO f xs s) R
  | [], s, _, h => ok_some h
  | x :: xs, s, k, h => by
    obtain ⟨r, h1, h2⟩ := k s x List.mem_cons_self h
    unfold forO
    rw [h1]
    exact forO_all R (fun s x hx => k s x (List.mem_cons_of_mem _ hx)) h2
/-- by what is done with each: a fold -/
theorem forO_fold {f : σ → α → Option σ} {g : σ → α → σ} (R : σ → Prop) : ∀ {xs : List α} {s : σ}, (∀ s x, x ∈ xs → R s → f s x = some (g s x) ∧ R (g s x)) → R s → forO f xs s = some (xs.foldl g s)
  | [], s, _, h => rfl
  | x :: xs, s, k, h => by
    obtain ⟨h1, h2⟩ := k s x List.mem_cons_self h
    unfold forO
    rw [h1]
    exact forO_fold R (fun s x hx => k s x (List.mem_cons_of_mem _ hx)) h2
theorem mpS_ok {f : α → Sta → Option (β × Sta)} (R : β → Prop) : ∀ {xs : List α} {s : Sta}, (∀ x s, Ok (f x s) fun p => R p.1) → Ok (mpS f xs s) fun p => p.1.length = xs.length ∧ ∀ y, y ∈ p.1 → R y
  | [], s, _ => ok_some ⟨rfl, fun y hy => by cases hy⟩
  | x :: xs, s, k => by
    obtain ⟨p, h1, h2⟩ := k x s
    obtain ⟨q, h3, h4, h5⟩ := mpS_ok R (xs := xs) (s := p.2) k
    unfold mpS
    rw [h1, ob_some, h3, ob_some]
    refine ok_some ⟨by simp [h4], fun y hy => ?_⟩
    rcases List.mem_cons.mp hy with rfl | hy
    · exact h2
    · exact h5 y hy
theorem mpO_map {f : α → Option β} {g : α → β} : ∀ {xs : List α}, (∀ x, x ∈ xs → f x = some (g x)) → mpO f xs = some (xs.map g)
  | [], _ => rfl
  | x :: xs, k => by
    unfold mpO
    rw [k x List.mem_cons_self, ob_some, mpO_map fun x hx => k x (List.mem_cons_of_mem _ hx), ob_some]; rfl
theorem flO_map {c : α → Option Bool} {f : α → Option β} {p : α → Bool} {g : α → β} : ∀ {xs : List α}, (∀ x, x ∈ xs → c x = some (p x)) → (∀ x, x ∈ xs → p x = true → f x = some (g x)) → flO c f xs = some ((xs.filter p).map g)
  | [], _, _ => rfl
  | x :: xs, k, k2 => by
    unfold flO
    rw [k x List.mem_cons_self, ob_some, List.filter_cons, flO_map (fun x hx => k x (List.mem_cons_of_mem _ hx)) fun x hx => k2 x (List.mem_cons_of_mem _ hx)]
    cases hp : p x with
    | true => rw [cond_true, k2 x List.mem_cons_self hp]; rfl
    | false => rfl
theorem omul_l {i j : Int} (h : i.natAbs < 18446744073709551616) : omul i j = some (i * j) := if_pos (mulOk_s h)
theorem omul_r {i j : Int} (h : j.natAbs < 18446744073709551616) : omul i j = some (i * j) := if_pos (mulOk_r h)
theorem olen_ok {xs : List α} (h : xs.length ≤ 100000) : olen xs = some xs := if_pos (lenOk_le h)
theorem oget_ok {xs : List α} {n : Nat} {x : α} (h : xs[n]? = some x) : oget xs (n : Int) = some x := by
  have hl : n < xs.length := by
    rcases Nat.lt_or_ge n xs.length with h1 | h1
    · exact h1
    · rw [List.getElem?_eq_none h1] at h; cases h
  unfold oget ixI
  rw [if_pos (by omega), if_pos (by omega)]
  simpa using h
theorem oget_neg1 {xs : List α} {x : α} : oget (xs ++ [x]) (-1) = some x := by
  unfold oget ixI
  rw [if_neg (by omega), if_pos (by simp; omega)]
  have e : (-1 + ((xs ++ [x]).length : Int)).toNat = xs.length := by simp; omega
  rw [Option.bind_some, e]
  simp
theorem oset_ok {xs : List α} {n : Nat} {x : α} (h : n < xs.length) : oset xs (n : Int) x = some (xs.set n x) := by
  unfold oset ixI
  rw [if_pos (by omega), if_pos (by omega)]
  simp
theorem rep1 {x : α} : ∀ n : Nat, (List.replicate n [x]).flatten = List.replicate n x
  | 0 => rfl
  | n + 1 => by rw [List.replicate_succ, List.flatten_cons, rep1 n]; rfl
theorem orep1 {x : α} {n : Nat} (h : n ≤ 100000) : orep [x] (n : Int) = some (List.replicate n x) := by
  unfold orep
  have : (decide (-9223372036854775808 ≤ (n : Int)) && decide ((n : Int) < 9223372036854775808) && lenOk ([x].length * (n : Int).toNat)) = true := by
    simp only [lenOk, Bool.and_eq_true, decide_eq_true_eq, List.length_cons, List.length_nil]; omega
  rw [if_pos this, Int.toNat_natCast, rep1]
theorem orng1_ok {n : Nat} (h : n ≤ 100000) : orng1 (n : Int) = some (rng 0 n) := by
  unfold orng1
  have : (ok62 (n : Int) && lenOk (n : Int).toNat) = true := by simp only [ok62, lenOk, Bool.and_eq_true, decide_eq_true_eq]; omega
  rw [if_pos this, Int.toNat_natCast]
theorem orng2_ok {i j : Int} (hi : -100000 ≤ i) (hi2 : i ≤ 100000) (hj : -100000 ≤ j) (hj2 : j ≤ 100000) : orng2 i j = some (rng i (j - i).toNat) := by
  unfold orng2
  have : (ok62 i && ok62 j && lenOk (j - i).toNat) = true := by simp only [ok62, lenOk, Bool.and_eq_true, decide_eq_true_eq]; omega
  rw [if_pos this]
theorem enumT_len : ∀ (xs : List α) (k : Int), (enumT k xs).length = xs.length
  | [], _ => rfl
  | x :: r, k => by simp [enumT, enumT_len r]
/-- by number: the same as by item -/
theorem forO_enum {f : σ → Int × α → Option σ} {g : σ → Int → Option σ} : ∀ {xs : List α} {k : Nat} {s : σ}, (∀ s (i : Nat) x, xs[i]? = some x → g s ((k + i : Nat) : Int) = f s (((k + i : Nat) : Int), x)) → forO g (rng (k : Int) xs.length) s = forO f (enumT (k : Int) xs) s
  | [], _, _, _ => rfl
  | x :: xs, k, s, h => by
    have h0 := h s 0 x rfl
    simp only [Nat.add_zero] at h0
    rw [List.length_cons, rng, enumT]
    unfold forO
    rw [h0]
    congr 1
    funext s1
    have e : (k : Int) + 1 = ((k + 1 : Nat) : Int) := by omega
    rw [e]
    exact forO_enum fun s i y hy => by
      have := h s (i + 1) y (by simpa using hy)
      rw [show k + 1 + i = k + (i + 1) by omega]
      exact this
end
end Zz
/-! ZHeadG: what the module holds, where gcd is math's. -/
namespace Zz
open PySem PySem.Spec PyProof.Rows L2
def gcdB (K : PySem.W.Frag) : Bool := He.eqO (PySem.W.nsIn K mainGlobals "gcd") (some (some (.builtin "math.gcd")))
abbrev AlG : Type := He.AlD × Bool
def obsGG (n : Nat) (fa : List He.Fa) (fn : List He.DefD) (g : Addr → Option Obj) : AlG := (He.obsD fa fn (He.frG g (He.asD g n)), gcdB (He.frG g (He.asD g n)))
def hookG (n : Nat) (fa : List He.Fa) (fn : List He.DefD) : PySem.W.Hook where
  α := AlG
  obs := fun s => obsGG n fa fn s.heap.get?
  val := fun _ => (He.valD fn, true)
  says := fun _ h => ∃ K : PySem.W.Frag, K.In h ∧ He.SaysD fa fn K ∧ gcdB K = true
  of := fun _ _ e => ⟨_, He.frG_in, congrArg (fun z : AlG => z.1) e, congrArg (fun z : AlG => z.2) e⟩
  keeps := fun _ _ _ ⟨K, hK, c⟩ k => ⟨K, PySem.W.Frag.In.keeps hK k, c⟩
theorem obsGG_eq {n : Nat} {fa : List He.Fa} {fn : List He.DefD} {g : Addr → Option Obj} {s : Shared} (h : ∀ a, g a = s.heap.get? a) : obsGG n fa fn g = (hookG n fa fn).obs s := by
  have e : g = s.heap.get? := funext h
  rw [e] <;> rfl
theorem gcd_ok {K : PySem.W.Frag} {h : Heap} {mg : Str → Option Value} (X : K.In h) (G : h.Ns mainGlobals mg) (c : gcdB K = true) : mg "gcd" = some (.builtin "math.gcd") := PySem.W.mg_of X G (He.eqO_ok c)
end Zz
/-! ZRtD: the functions of fractions and lines, as they are printed for each law. -/
namespace Zz.Rt
open PySem
def o_lowest (p_ : Int) (q_ : Int) : Option (Int × Int) :=
  ob (some (bif (decide ((0 : Int) < q_)) then (gcdT p_ q_) else (-(gcdT p_ q_)))) fun common1 =>
  ob (odiv p_ common1) fun t2 =>
  ob (odiv q_ common1) fun t3 =>
  some (t2, t3)
def o_told_integers (parts_ : List (Int × Int)) : Option (List Int) :=
  ob (some (1 : Int)) fun low1 =>
  ob (forO (σ := Int) (fun s2 x6 =>
    ob (omul s2 x6.2) fun t7 =>
    ob (odiv t7 (gcdT s2 x6.2)) fun t8 =>
    some t8) parts_ low1) fun s3 =>
  ob (mpO (fun x9 => ob (odiv s3 x9.2) fun t10 => ob (omul x9.1 t10) fun t11 => some t11) parts_) fun l12 =>
  ob (olen l12) fun l13 =>
  ob (some (0 : Int)) fun common14 =>
  ob (forO (σ := Int) (fun s15 x18 =>
    ob (some (gcdT s15 x18)) fun common19 =>
    some common19) l13 common14) fun s16 =>
  ob (olen ((l13.filter fun x20 => (!(decide (x20 = (0 : Int))))).map fun x20 => x20)) fun l21 =>
  ob (oget l21 (0 : Int)) fun g22 =>
  ob (mpO (fun x23 => ob (bif (decide ((0 : Int) < g22)) then (ob (odiv x23 s16) fun t24 => some t24) else (ob (odiv (-x23) s16) fun t25 => some t25)) fun i26 => some i26) l13) fun l27 =>
  ob (olen l27) fun l28 =>
  some l28
def o__law_common (one_ : Int) (other_ : Int) : Option Int :=
  ob (some (absT one_)) fun one1 =>
  ob (some (absT other_)) fun other2 =>
  ob (whO (σ := (Int × Int)) (fun s3 => some (decide ((0 : Int) < s3.2))) (fun s3 =>
    ob (omod s3.1 s3.2) fun t6 =>
    some (s3.2, t6)) WW (one1, other2)) fun s4 =>
  some s4.1
def o_add (a_ : (Int × Int)) (b_ : (Int × Int)) : Option (Int × Int) :=
  ob (omul a_.1 b_.2) fun t1 =>
  ob (omul b_.1 a_.2) fun t2 =>
  ob (omul a_.2 b_.2) fun t3 =>
  ob (o_lowest (t1 + t2) t3) fun lowest4 =>
  some lowest4
def o_sub (a_ : (Int × Int)) (b_ : (Int × Int)) : Option (Int × Int) :=
  ob (omul a_.1 b_.2) fun t1 =>
  ob (omul b_.1 a_.2) fun t2 =>
  ob (omul a_.2 b_.2) fun t3 =>
  ob (o_lowest (t1 - t2) t3) fun lowest4 =>
  some lowest4
def o_mul (a_ : (Int × Int)) (b_ : (Int × Int)) : Option (Int × Int) :=
  ob (omul a_.1 b_.1) fun t1 =>
  ob (omul a_.2 b_.2) fun t2 =>
  ob (o_lowest t1 t2) fun lowest3 =>
  some lowest3
def o_div (a_ : (Int × Int)) (b_ : (Int × Int)) : Option (Int × Int) :=
  ob (omul a_.1 b_.2) fun t1 =>
  ob (omul a_.2 b_.1) fun t2 =>
  ob (o_lowest t1 t2) fun lowest3 =>
  some lowest3
def o_two_on (line_ : List Int) : Option (((Int × Int) × (Int × Int)) × ((Int × Int) × (Int × Int))) :=
  ob (o3 line_) fun tu1 =>
  bif (decide (tu1.2.1 = (0 : Int))) then (
  ob (o_lowest (-tu1.2.2) tu1.1) fun lowest2 =>
  ob (o_lowest (-tu1.2.2) tu1.1) fun lowest3 =>
  some ((lowest2, ((0 : Int), (1 : Int))), (lowest3, ((1 : Int), (1 : Int))))) else (
  ob (o_lowest (-tu1.2.2) tu1.2.1) fun lowest4 =>
  ob (o_lowest ((-tu1.2.2) - tu1.1) tu1.2.1) fun lowest5 =>
  some ((((0 : Int), (1 : Int)), lowest4), (((1 : Int), (1 : Int)), lowest5)))
def o__law_lowest (above_ : Int) (below_ : Int) : Option (Int × Int) :=
  ob (o__law_common above_ below_) fun common1 =>
  ob (some (bif (decide (below_ < (0 : Int))) then (-(1 : Int)) else (1 : Int))) fun sign2 =>
  ob (omul sign2 above_) fun t3 =>
  ob (odiv t3 common1) fun t4 =>
  ob (omul sign2 below_) fun t5 =>
  ob (odiv t5 common1) fun t6 =>
  some (t4, t6)
def o__law_line (a_ : (Int × Int)) (b_ : (Int × Int)) (c_ : (Int × Int)) : Option (List Int) :=
  ob (omul a_.2 b_.2) fun t1 =>
  ob (omul t1 c_.2) fun t2 =>
  ob (odiv t2 a_.2) fun t3 =>
  ob (omul a_.1 t3) fun t4 =>
  ob (odiv t2 b_.2) fun t5 =>
  ob (omul b_.1 t5) fun t6 =>
  ob (odiv t2 c_.2) fun t7 =>
  ob (omul c_.1 t7) fun t8 =>
  ob (some ([t4, t6, t8] : List Int)) fun row9 =>
  ob (oget row9 (0 : Int)) fun g10 =>
  ob (oget row9 (1 : Int)) fun g11 =>
  ob (o__law_common g10 g11) fun common12 =>
  ob (oget row9 (2 : Int)) fun g13 =>
  ob (o__law_common common12 g13) fun common14 =>
  ob (olen ((row9.filter fun x15 => (!(decide (x15 = (0 : Int))))).map fun x15 => x15)) fun l16 =>
  ob (oget l16 (0 : Int)) fun g17 =>
  ob (some (bif (decide ((0 : Int) < g17)) then common14 else (-common14))) fun part18 =>
  ob (mpO (fun x19 => ob (odiv x19 part18) fun t20 => some t20) row9) fun l21 =>
  ob (olen l21) fun l22 =>
  some l22
def o_total (parts_ : List (Int × Int)) : Option (Int × Int) :=
  ob (some ((0 : Int), (1 : Int))) fun told1 =>
  ob (forO (σ := (Int × Int)) (fun s2 x5 =>
    ob (o_add s2 x5) fun add6 =>
    some add6) parts_ told1) fun s3 =>
  some s3
def o_joined (one_ : ((Int × Int) × (Int × Int))) (other_ : ((Int × Int) × (Int × Int))) : Option (List Int) :=
  ob (o_sub one_.2 other_.2) fun sub1 =>
  ob (o_sub other_.1 one_.1) fun sub2 =>
  ob (o_mul sub1 one_.1) fun mul3 =>
  ob (o_mul sub2 one_.2) fun mul4 =>
  ob (o_add mul3 mul4) fun add5 =>
  ob (o_sub ((0 : Int), (1 : Int)) add5) fun sub6 =>
  ob (o_told_integers ([sub1, sub2, sub6] : List (Int × Int))) fun told_i7 =>
  some told_i7
def o_met (one_ : List Int) (other_ : List Int) : Option (Option ((Int × Int) × (Int × Int))) :=
  ob (oget one_ (0 : Int)) fun g1 =>
  ob (oget other_ (1 : Int)) fun g2 =>
  ob (omul g1 g2) fun t3 =>
  ob (oget other_ (0 : Int)) fun g4 =>
  ob (oget one_ (1 : Int)) fun g5 =>
  ob (omul g4 g5) fun t6 =>
  ob (some (t3 - t6)) fun low7 =>
  bif (decide (low7 = (0 : Int))) then (
  some none) else (
  ob (oget one_ (1 : Int)) fun g8 =>
  ob (oget other_ (2 : Int)) fun g9 =>
  ob (omul g8 g9) fun t10 =>
  ob (oget other_ (1 : Int)) fun g11 =>
  ob (oget one_ (2 : Int)) fun g12 =>
  ob (omul g11 g12) fun t13 =>
  ob (some (t10 - t13)) fun x14 =>
  ob (oget other_ (0 : Int)) fun g15 =>
  ob (oget one_ (2 : Int)) fun g16 =>
  ob (omul g15 g16) fun t17 =>
  ob (oget one_ (0 : Int)) fun g18 =>
  ob (oget other_ (2 : Int)) fun g19 =>
  ob (omul g18 g19) fun t20 =>
  ob (some (t17 - t20)) fun y21 =>
  ob (o_div (x14, (1 : Int)) (low7, (1 : Int))) fun div22 =>
  ob (o_div (y21, (1 : Int)) (low7, (1 : Int))) fun div23 =>
  some (some (div22, div23)))
def o_line_through (a_ : Int) (b_ : Int) (place_ : ((Int × Int) × (Int × Int))) : Option (List Int) :=
  ob (o_mul (a_, (1 : Int)) place_.1) fun mul1 =>
  ob (o_mul (b_, (1 : Int)) place_.2) fun mul2 =>
  ob (o_add mul1 mul2) fun add3 =>
  ob (o_sub ((0 : Int), (1 : Int)) add3) fun sub4 =>
  ob (o_told_integers ([(a_, (1 : Int)), (b_, (1 : Int)), sub4] : List (Int × Int))) fun told_i5 =>
  some told_i5
def o_middle (one_ : ((Int × Int) × (Int × Int))) (other_ : ((Int × Int) × (Int × Int))) : Option ((Int × Int) × (Int × Int)) :=
  ob (o_add one_.1 other_.1) fun add1 =>
  ob (o_div add1 ((2 : Int), (1 : Int))) fun div2 =>
  ob (o_add one_.2 other_.2) fun add3 =>
  ob (o_div add3 ((2 : Int), (1 : Int))) fun div4 =>
  some (div2, div4)
def o__law_plus (one_ : (Int × Int)) (other_ : (Int × Int)) : Option (Int × Int) :=
  ob (omul one_.1 other_.2) fun t1 =>
  ob (omul other_.1 one_.2) fun t2 =>
  ob (omul one_.2 other_.2) fun t3 =>
  ob (o__law_lowest (t1 + t2) t3) fun lowest4 =>
  some lowest4
def o__law_product (one_ : (Int × Int)) (other_ : (Int × Int)) : Option (Int × Int) :=
  ob (omul one_.1 other_.1) fun t1 =>
  ob (omul one_.2 other_.2) fun t2 =>
  ob (o__law_lowest t1 t2) fun lowest3 =>
  some lowest3
def o_worth_at (line_ : List Int) (place_ : ((Int × Int) × (Int × Int))) : Option (Int × Int) :=
  ob (oget line_ (0 : Int)) fun g1 =>
  ob (o_mul (g1, (1 : Int)) place_.1) fun mul2 =>
  ob (oget line_ (1 : Int)) fun g3 =>
  ob (o_mul (g3, (1 : Int)) place_.2) fun mul4 =>
  ob (oget line_ (2 : Int)) fun g5 =>
  ob (o_total ([mul2, mul4, (g5, (1 : Int))] : List (Int × Int))) fun total6 =>
  some total6
def o_upright_through (line_ : List Int) (place_ : ((Int × Int) × (Int × Int))) : Option (List Int) :=
  ob (oget line_ (1 : Int)) fun g1 =>
  ob (oget line_ (0 : Int)) fun g2 =>
  ob (o_line_through g1 (-g2) place_) fun line_t3 =>
  some line_t3
def o__law_through (p_ : ((Int × Int) × (Int × Int))) (q_ : ((Int × Int) × (Int × Int))) : Option (List Int) :=
  ob (o__law_plus p_.2 ((-q_.2.1), q_.2.2)) fun plus1 =>
  ob (o__law_plus q_.1 ((-p_.1.1), p_.1.2)) fun plus2 =>
  ob (o__law_product plus1 p_.1) fun produc3 =>
  ob (o__law_product plus2 p_.2) fun produc4 =>
  ob (o__law_plus produc3 produc4) fun plus5 =>
  ob (o__law_line plus1 plus2 ((-plus5.1), plus5.2)) fun line6 =>
  some line6
def o__law_mirrored (line_ : List Int) (p_ : ((Int × Int) × (Int × Int))) : Option ((Int × Int) × (Int × Int)) :=
  ob (oget line_ (0 : Int)) fun g1 =>
  ob (o__law_product (g1, (1 : Int)) p_.1) fun produc2 =>
  ob (oget line_ (1 : Int)) fun g3 =>
  ob (o__law_product (g3, (1 : Int)) p_.2) fun produc4 =>
  ob (o__law_plus produc2 produc4) fun plus5 =>
  ob (oget line_ (2 : Int)) fun g6 =>
  ob (o__law_plus plus5 (g6, (1 : Int))) fun plus7 =>
  ob (oget line_ (0 : Int)) fun g8 =>
  ob (oget line_ (0 : Int)) fun g9 =>
  ob (omul g8 g9) fun t10 =>
  ob (oget line_ (1 : Int)) fun g11 =>
  ob (oget line_ (1 : Int)) fun g12 =>
  ob (omul g11 g12) fun t13 =>
  ob (some (t10 + t13)) fun size14 =>
  ob (o__law_product plus7 ((-(2 : Int)), size14)) fun produc15 =>
  ob (oget line_ (0 : Int)) fun g16 =>
  ob (o__law_product produc15 (g16, (1 : Int))) fun produc17 =>
  ob (o__law_plus p_.1 produc17) fun plus18 =>
  ob (oget line_ (1 : Int)) fun g19 =>
  ob (o__law_product produc15 (g19, (1 : Int))) fun produc20 =>
  ob (o__law_plus p_.2 produc20) fun plus21 =>
  some (plus18, plus21)
def o_is_on (line_ : List Int) (place_ : ((Int × Int) × (Int × Int))) : Option Bool :=
  ob (o_worth_at line_ place_) fun worth_1 =>
  some (decide (worth_1 = ((0 : Int), (1 : Int))))
def o_foot (line_ : List Int) (place_ : ((Int × Int) × (Int × Int))) : Option (Option ((Int × Int) × (Int × Int))) :=
  ob (o_upright_through line_ place_) fun uprigh1 =>
  ob (o_met line_ uprigh1) fun met2 =>
  some met2
def o_fold_onto (one_ : ((Int × Int) × (Int × Int))) (other_ : ((Int × Int) × (Int × Int))) : Option (List Int) :=
  ob (o_joined one_ other_) fun joined1 =>
  ob (o_middle one_ other_) fun middle2 =>
  ob (o_upright_through joined1 middle2) fun uprigh3 =>
  some uprigh3
def o_mirrored (line_ : List Int) (place_ : ((Int × Int) × (Int × Int))) : Option ((Int × Int) × (Int × Int)) :=
  ob (o_foot line_ place_) fun foot1 =>
  ob (foot1) fun un2 =>
  ob (o_mul ((2 : Int), (1 : Int)) un2.1) fun mul3 =>
  ob (o_sub mul3 place_.1) fun sub4 =>
  ob (foot1) fun un5 =>
  ob (o_mul ((2 : Int), (1 : Int)) un5.2) fun mul6 =>
  ob (o_sub mul6 place_.2) fun sub7 =>
  some (sub4, sub7)
def o_image (fold_ : List Int) (place_ : ((Int × Int) × (Int × Int))) : Option ((Int × Int) × (Int × Int)) :=
  ob (o_mirrored fold_ place_) fun mirror1 =>
  some mirror1
def o_image_line (fold_ : List Int) (line_ : List Int) : Option (List Int) :=
  ob (o_two_on line_) fun two_on1 =>
  ob (o_mirrored fold_ two_on1.1) fun mirror2 =>
  ob (o_mirrored fold_ two_on1.2) fun mirror3 =>
  ob (o_joined mirror2 mirror3) fun joined4 =>
  some joined4
def o_leads_onto (fold_ : List Int) (place_ : ((Int × Int) × (Int × Int))) (line_ : List Int) : Option Bool :=
  ob (o_mirrored fold_ place_) fun mirror1 =>
  ob (o_is_on line_ mirror1) fun is_on2 =>
  some is_on2
end Zz.Rt
/-! ZRt: pairs of a fraction are fractions. -/
namespace Zz.Rt
open PySem
def fr (x : Rat) : Int × Int := (x.num, (x.den : Int))
theorem fr_inj {x y : Rat} : fr x = fr y ↔ x = y := by
  constructor
  · intro h
    have h1 : x.num = y.num := congrArg (fun p : Int × Int => p.1) h
    have h2 : (x.den : Int) = (y.den : Int) := congrArg (fun p : Int × Int => p.2) h
    exact Rat.ext h1 (by omega)
  · rintro rfl; rfl
theorem den_pos (x : Rat) : 0 < x.den := Nat.pos_of_ne_zero x.den_nz
/-- of at most n bits -/
def Sz (n : Nat) (x : Rat) : Prop := x.num.natAbs < 2 ^ n ∧ x.den < 2 ^ n
theorem two_pos (n : Nat) : 0 < 2 ^ n := Nat.pow_pos (by omega)
theorem pow_le {n m : Nat} (h : n ≤ m) : 2 ^ n ≤ 2 ^ m := Nat.pow_le_pow_right (by omega) h
theorem Sz.mono {n m : Nat} {x : Rat} (h : Sz n x) (k : n ≤ m) : Sz m x := ⟨Nat.lt_of_lt_of_le h.1 (pow_le k), Nat.lt_of_lt_of_le h.2 (pow_le k)⟩
theorem log_lt {a n : Nat} (h : a < 2 ^ n) : a.log2 < n + 1 := by
  rcases Nat.eq_zero_or_pos a with e | e
  · subst e; simp
  · have := (Nat.log2_lt (k := n) (by omega)).mpr h; omega
theorem omul_sz {i j : Int} {n m : Nat} (h1 : i.natAbs < 2 ^ n) (h2 : j.natAbs < 2 ^ m) (h : n + m ≤ 900000) : omul i j = some (i * j) := by
  refine if_pos ?_
  have a := log_lt h1
  have b := log_lt h2
  simp only [mulOk, Bool.or_eq_true, decide_eq_true_eq]
  exact .inr (by omega)
theorem mul_lt {a b n m : Nat} (h1 : a < 2 ^ n) (h2 : b < 2 ^ m) : a * b < 2 ^ (n + m) := by
  rw [Nat.pow_add]; exact Nat.mul_lt_mul'' h1 h2
theorem odiv_ok {i j : Int} (h0 : j ≠ 0) (h : j.natAbs < 2 ^ 8999) : odiv i j = some (divI i j) := by
  refine if_pos ?_
  have := log_lt h
  simp only [divOk, Bool.and_eq_true, decide_eq_true_eq]
  exact ⟨h0, by omega⟩
theorem gcd_dvd (p q : Int) : ∃ k, p = (Nat.gcd p.natAbs q.natAbs : Int) * k := by
  have : ((Nat.gcd p.natAbs q.natAbs : Nat) : Int) ∣ p := Int.ofNat_dvd_left.mpr (Nat.gcd_dvd_left _ _)
  exact this
theorem gcd_dvd2 (p q : Int) : ∃ k, q = (Nat.gcd p.natAbs q.natAbs : Int) * k := by
  have : ((Nat.gcd p.natAbs q.natAbs : Nat) : Int) ∣ q := Int.ofNat_dvd_left.mpr (Nat.gcd_dvd_right _ _)
  exact this
theorem low_num {p q : Int} (hq : q ≠ 0) : ((p : Rat) / (q : Rat)).num = q.sign * (p / (Nat.gcd p.natAbs q.natAbs : Int)) ∧ (((p : Rat) / (q : Rat)).den : Int) = q.sign * (q / (Nat.gcd p.natAbs q.natAbs : Int)) := by
  have g0 : (0 : Int) < (Nat.gcd p.natAbs q.natAbs : Int) := by have := Nat.gcd_pos_of_pos_right p.natAbs (n := q.natAbs) (by omega); omega
  have hg : Int.gcd q p = Nat.gcd p.natAbs q.natAbs := by unfold Int.gcd; exact Nat.gcd_comm _ _
  obtain ⟨k, hk⟩ := gcd_dvd p q
  obtain ⟨l, hl⟩ := gcd_dvd2 p q
  rw [← Rat.divInt_eq_div]
  constructor
  · rw [Rat.num_divInt, hg]
    generalize (Nat.gcd p.natAbs q.natAbs : Int) = g at *
    rw [hk, Int.mul_ediv_cancel_left _ (by omega), ← Int.mul_assoc, Int.mul_comm q.sign g, Int.mul_assoc, Int.mul_ediv_cancel_left _ (by omega)]
  · rw [Rat.den_divInt, if_neg hq, hg, Int.natCast_ediv]
    have hs : ((q.natAbs : Nat) : Int) = q.sign * q := by rw [Int.sign_mul_self]
    rw [hs]
    generalize (Nat.gcd p.natAbs q.natAbs : Int) = g at *
    have e1 : q / g = l := by rw [hl, Int.mul_ediv_cancel_left _ (by omega)]
    have e2 : q.sign * q / g = q.sign * l := by
      conv => lhs; rw [show q.sign * q = g * (q.sign * l) by rw [← Int.mul_assoc, Int.mul_comm g, Int.mul_assoc, ← hl]]
      rw [Int.mul_ediv_cancel_left _ (by omega)]
    rw [e1, e2]
theorem lowest_ok {p q : Int} (hq : q ≠ 0) (h : q.natAbs < 2 ^ 8999) : o_lowest p q = some (fr ((p : Rat) / (q : Rat))) := by
  have g0 : 0 < Nat.gcd p.natAbs q.natAbs := Nat.gcd_pos_of_pos_right p.natAbs (by omega)
  have gl : Nat.gcd p.natAbs q.natAbs ≤ q.natAbs := Nat.gcd_le_right _ (by omega)
  obtain ⟨h1, h2⟩ := low_num (p := p) hq
  obtain ⟨k, hk⟩ := gcd_dvd p q
  obtain ⟨l, hl⟩ := gcd_dvd2 p q
  unfold o_lowest fr gcdT
  rw [h1, h2]
  generalize Nat.gcd p.natAbs q.natAbs = g at *
  rw [ob_some]
  have ek : p / (g : Int) = k := by rw [hk, Int.mul_ediv_cancel_left _ (by omega)]
  have el : q / (g : Int) = l := by rw [hl, Int.mul_ediv_cancel_left _ (by omega)]
  rcases Int.lt_trichotomy q 0 with hn | hn | hn
  · rw [decide_eq_false (by omega), cond_false, odiv_ok (by omega) (by omega), ob_some, odiv_ok (by omega) (by omega), ob_some, Int.sign_eq_neg_one_of_neg hn, ek, el]
    have hd : ∀ z : Int, divI ((g : Int) * z) (-(g : Int)) = -1 * z := fun z => by
      unfold divI
      rw [if_neg (by omega), show (g : Int) * z = -(g : Int) * (-1 * z) by rw [Int.neg_mul, Int.neg_mul, Int.one_mul, Int.mul_neg, Int.neg_neg], Int.mul_fdiv_cancel_left _ (by omega)]
    rw [hk, hd, hl, hd]
  · exact absurd hn hq
  · rw [decide_eq_true (by omega), cond_true, odiv_ok (by omega) (by omega), ob_some, odiv_ok (by omega) (by omega), ob_some, Int.sign_eq_one_of_pos hn, Int.one_mul, Int.one_mul]
    unfold divI
    rw [if_pos (by omega), if_pos (by omega)]
/-- bounds from any way to write it -/
theorem sz_of {x : Rat} {p q : Int} {n : Nat} (hq : q ≠ 0) (e : x = (p : Rat) / (q : Rat)) (hp : p.natAbs < 2 ^ n) (hq2 : q.natAbs < 2 ^ n) : Sz n x := by
  obtain ⟨h1, h2⟩ := low_num (p := p) hq
  have g0 : 0 < Nat.gcd p.natAbs q.natAbs := Nat.gcd_pos_of_pos_right p.natAbs (by omega)
  obtain ⟨k, hk⟩ := gcd_dvd p q
  obtain ⟨l, hl⟩ := gcd_dvd2 p q
  rw [← e] at h1 h2
  generalize Nat.gcd p.natAbs q.natAbs = g at *
  have ek : p / (g : Int) = k := by rw [hk, Int.mul_ediv_cancel_left _ (by omega)]
  have el : q / (g : Int) = l := by rw [hl, Int.mul_ediv_cancel_left _ (by omega)]
  rw [ek] at h1
  rw [el] at h2
  have hs : q.sign.natAbs = 1 := by rw [Int.natAbs_sign_of_ne_zero hq]
  have b1 : x.num.natAbs = k.natAbs := by rw [h1, Int.natAbs_mul, hs, Nat.one_mul]
  have b2 : x.den = l.natAbs := by
    have : ((x.den : Nat) : Int).natAbs = l.natAbs := by rw [h2, Int.natAbs_mul, hs, Nat.one_mul]
    simpa using this
  have c1 : p.natAbs = g * k.natAbs := by rw [hk, Int.natAbs_mul]; simp
  have c2 : q.natAbs = g * l.natAbs := by rw [hl, Int.natAbs_mul]; simp
  have d1 : k.natAbs ≤ g * k.natAbs := Nat.le_mul_of_pos_left _ g0
  have d2 : l.natAbs ≤ g * l.natAbs := Nat.le_mul_of_pos_left _ g0
  exact ⟨by omega, by omega⟩
theorem eq_nd (x : Rat) : x = (x.num : Rat) / ((x.den : Int) : Rat) := by
  have := Rat.num_divInt_den x
  rw [Rat.divInt_eq_div] at this
  exact this.symm
theorem den_ne (x : Rat) : ((x.den : Int) : Rat) ≠ 0 := by
  have := den_pos x
  intro e
  have : (x.den : Int) = 0 := by exact_mod_cast e
  omega
theorem add_ok {x y : Rat} {n m : Nat} (hx : Sz n x) (hy : Sz m y) (h : n + m ≤ 8999) : o_add (fr x) (fr y) = some (fr (x + y)) := by
  have px := den_pos x
  have py := den_pos y
  have dxy := mul_lt hx.2 hy.2
  unfold o_add fr
  rw [omul_sz hx.1 (m := m) (by simpa using hy.2) (by omega), ob_some, omul_sz hy.1 (m := n) (by simpa using hx.2) (by omega), ob_some, omul_sz (i := (x.den : Int)) (n := n) (m := m) (by simpa using hx.2) (by simpa using hy.2) (by omega), ob_some,
    lowest_ok (Int.ne_of_gt (Int.mul_pos (a := (x.den : Int)) (b := (y.den : Int)) (by omega) (by omega))) (by rw [Int.natAbs_mul]; exact Nat.lt_of_lt_of_le (by simpa using dxy) (pow_le h))]
  rw [ob_some]
  congr 2
  have e1 := eq_nd x
  have e2 := eq_nd y
  have d1 := den_ne x
  have d2 := den_ne y
  rw [Rat.intCast_add, Rat.intCast_mul, Rat.intCast_mul, Rat.intCast_mul]
  conv => rhs; rw [e1, e2]
  grind
theorem sub_ok {x y : Rat} {n m : Nat} (hx : Sz n x) (hy : Sz m y) (h : n + m ≤ 8999) : o_sub (fr x) (fr y) = some (fr (x - y)) := by
  have px := den_pos x
  have py := den_pos y
  have dxy := mul_lt hx.2 hy.2
  unfold o_sub fr
  rw [omul_sz hx.1 (m := m) (by simpa using hy.2) (by omega), ob_some, omul_sz hy.1 (m := n) (by simpa using hx.2) (by omega), ob_some, omul_sz (i := (x.den : Int)) (n := n) (m := m) (by simpa using hx.2) (by simpa using hy.2) (by omega), ob_some,
    lowest_ok (Int.ne_of_gt (Int.mul_pos (a := (x.den : Int)) (b := (y.den : Int)) (by omega) (by omega))) (by rw [Int.natAbs_mul]; exact Nat.lt_of_lt_of_le (by simpa using dxy) (pow_le h))]
  rw [ob_some]
  congr 2
  have e1 := eq_nd x
  have e2 := eq_nd y
  have d1 := den_ne x
  have d2 := den_ne y
  rw [Rat.intCast_sub, Rat.intCast_mul, Rat.intCast_mul, Rat.intCast_mul]
  conv => rhs; rw [e1, e2]
  grind
theorem mul_ok {x y : Rat} {n m : Nat} (hx : Sz n x) (hy : Sz m y) (h : n + m ≤ 8999) : o_mul (fr x) (fr y) = some (fr (x * y)) := by
  have px := den_pos x
  have py := den_pos y
  have dxy := mul_lt hx.2 hy.2
  unfold o_mul fr
  rw [omul_sz hx.1 hy.1 (by omega), ob_some, omul_sz (i := (x.den : Int)) (n := n) (m := m) (by simpa using hx.2) (by simpa using hy.2) (by omega), ob_some,
    lowest_ok (Int.ne_of_gt (Int.mul_pos (a := (x.den : Int)) (b := (y.den : Int)) (by omega) (by omega))) (by rw [Int.natAbs_mul]; exact Nat.lt_of_lt_of_le (by simpa using dxy) (pow_le h))]
  rw [ob_some]
  congr 2
  have e1 := eq_nd x
  have e2 := eq_nd y
  have d1 := den_ne x
  have d2 := den_ne y
  rw [Rat.intCast_mul, Rat.intCast_mul]
  conv => rhs; rw [e1, e2]
  grind
theorem num_ne {x : Rat} (h : x ≠ 0) : x.num ≠ 0 := fun e => h (Rat.num_eq_zero.mp e)
theorem div_ok {x y : Rat} {n m : Nat} (hx : Sz n x) (hy : Sz m y) (h0 : y ≠ 0) (h : n + m ≤ 8999) : o_div (fr x) (fr y) = some (fr (x / y)) := by
  have px := den_pos x
  have py := den_pos y
  have ny := num_ne h0
  have dxy := mul_lt hx.2 hy.1
  unfold o_div fr
  rw [omul_sz hx.1 (m := m) (by simpa using hy.2) (by omega), ob_some, omul_sz (i := (x.den : Int)) (n := n) (by simpa using hx.2) hy.1 (by omega), ob_some,
    lowest_ok (Int.mul_ne_zero (by omega) ny) (by rw [Int.natAbs_mul]; exact Nat.lt_of_lt_of_le (by simpa using dxy) (pow_le h))]
  rw [ob_some]
  congr 2
  have e1 := eq_nd x
  have e2 := eq_nd y
  have d1 := den_ne x
  have d2 := den_ne y
  have n2 : ((y.num : Int) : Rat) ≠ 0 := by intro e; exact ny (by exact_mod_cast e)
  rw [Rat.intCast_mul, Rat.intCast_mul]
  conv => rhs; rw [e1, e2]
  grind
/-! ### sizes -/
theorem sz_int {k : Int} {n : Nat} (h : k.natAbs < 2 ^ n) (h1 : 1 ≤ n) : Sz n (k : Rat) :=
  sz_of (p := k) (q := 1) (by omega) (by have : ((1 : Int) : Rat) = 1 := rfl; rw [this]; grind) h (by have := pow_le h1; simp; omega)
theorem sz_add {x y : Rat} {n m : Nat} (hx : Sz n x) (hy : Sz m y) : Sz (n + m + 1) (x + y) := by
  have px := den_pos x
  have py := den_pos y
  have d1 := den_ne x
  have d2 := den_ne y
  refine sz_of (p := x.num * (y.den : Int) + y.num * (x.den : Int)) (q := (x.den : Int) * (y.den : Int)) (Int.ne_of_gt (Int.mul_pos (by omega) (by omega))) ?_ ?_ ?_
  · rw [Rat.intCast_add, Rat.intCast_mul, Rat.intCast_mul, Rat.intCast_mul]
    have e1 := eq_nd x
    have e2 := eq_nd y
    conv => lhs; rw [e1, e2]
    grind
  · have a := mul_lt hx.1 hy.2
    have b := mul_lt hy.1 hx.2
    rw [Nat.add_comm m n] at b
    have c := Int.natAbs_add_le (x.num * (y.den : Int)) (y.num * (x.den : Int))
    rw [Int.natAbs_mul, Int.natAbs_mul] at c
    simp only [Int.natAbs_natCast] at c
    rw [Nat.pow_succ]; omega
  · have a := mul_lt hx.2 hy.2
    rw [Int.natAbs_mul]
    simp only [Int.natAbs_natCast]
    rw [Nat.pow_succ]; omega
theorem sz_neg {x : Rat} {n : Nat} (hx : Sz n x) : Sz n (-x) := ⟨by simpa using hx.1, by simpa using hx.2⟩
theorem sz_sub {x y : Rat} {n m : Nat} (hx : Sz n x) (hy : Sz m y) : Sz (n + m + 1) (x - y) := by rw [Rat.sub_eq_add_neg]; exact sz_add hx (sz_neg hy)
theorem sz_mul {x y : Rat} {n m : Nat} (hx : Sz n x) (hy : Sz m y) : Sz (n + m) (x * y) := by
  have px := den_pos x
  have py := den_pos y
  have d1 := den_ne x
  have d2 := den_ne y
  refine sz_of (p := x.num * y.num) (q := (x.den : Int) * (y.den : Int)) (Int.ne_of_gt (Int.mul_pos (by omega) (by omega))) ?_ ?_ ?_
  · rw [Rat.intCast_mul, Rat.intCast_mul]
    have e1 := eq_nd x
    have e2 := eq_nd y
    conv => lhs; rw [e1, e2]
    grind
  · rw [Int.natAbs_mul]; exact mul_lt hx.1 hy.1
  · rw [Int.natAbs_mul]; simpa using mul_lt hx.2 hy.2
theorem fr_int (k : Int) : fr (k : Rat) = (k, 1) := by
  unfold fr
  rw [Rat.num_intCast, Rat.den_intCast]; rfl
theorem fr0 : ((0 : Int), (1 : Int)) = fr 0 := rfl
theorem fr1 : ((1 : Int), (1 : Int)) = fr 1 := rfl
theorem fr2 : ((2 : Int), (1 : Int)) = fr 2 := rfl
theorem fr_neg (x : Rat) : (-(fr x).1, (fr x).2) = fr (-x) := by unfold fr; simp
/-! ### the law's own -/
theorem common_go : ∀ (k n a b : Nat), b < 2 ^ k → 2 * k + 1 ≤ n → whO (σ := (Int × Int)) (fun s3 => some (decide ((0 : Int) < s3.2))) (fun s3 => ob (omod s3.1 s3.2) fun t6 => some (s3.2, t6)) n ((a : Int), (b : Int)) = some (((Nat.gcd a b : Nat) : Int), (0 : Int)) := by
  have step : ∀ (n a b : Nat), whO (σ := (Int × Int)) (fun s3 => some (decide ((0 : Int) < s3.2))) (fun s3 => ob (omod s3.1 s3.2) fun t6 => some (s3.2, t6)) (n + 1) ((a : Int), (b : Int)) =
      if b = 0 then some ((a : Int), 0) else whO (σ := (Int × Int)) (fun s3 => some (decide ((0 : Int) < s3.2))) (fun s3 => ob (omod s3.1 s3.2) fun t6 => some (s3.2, t6)) n ((b : Int), ((a % b : Nat) : Int)) := by
    intro n a b
    conv => lhs; unfold whO
    rw [ob_some]
    by_cases hb : b = 0
    · subst hb; rfl
    · rw [if_neg hb, decide_eq_true (show (0 : Int) < (b : Int) by omega), cond_true]
      have : omod (a : Int) (b : Int) = some ((a % b : Nat) : Int) := by
        unfold omod modI
        rw [if_pos (by simp; omega), if_pos (by omega)]; rfl
      show ob (ob (omod (a : Int) (b : Int)) _) _ = _
      rw [this]; rfl
  intro k
  induction k with
  | zero =>
    intro n a b h hn
    obtain ⟨n, rfl⟩ : ∃ n', n = n' + 1 := ⟨n - 1, by omega⟩
    have : b = 0 := by simp at h; exact h
    subst this
    rw [step, if_pos rfl]; simp
  | succ k ih =>
    intro n a b h hn
    obtain ⟨n, rfl⟩ : ∃ n', n = n' + 2 := ⟨n - 2, by omega⟩
    rw [step]
    by_cases hb : b = 0
    · subst hb; simp
    · rw [if_neg hb, step]
      have g1 : Nat.gcd a b = Nat.gcd b (a % b) := by rw [Nat.gcd_comm a b, Nat.gcd_rec b a, Nat.gcd_comm]
      by_cases hc : a % b = 0
      · rw [if_pos hc, g1, hc]; simp
      · rw [if_neg hc]
        have g2 : Nat.gcd b (a % b) = Nat.gcd (a % b) (b % (a % b)) := by rw [Nat.gcd_comm b (a % b), Nat.gcd_rec (a % b) b, Nat.gcd_comm]
        have hlt : a % b < b := Nat.mod_lt _ (by omega)
        have hhalf : 2 * (b % (a % b)) < b := by
          have h1 := Nat.mod_lt b (show 0 < a % b by omega)
          rcases Nat.lt_or_ge (2 * (a % b)) b with h2 | h2
          · omega
          · have h3 : b % (a % b) ≤ b - (a % b) := by
              rw [Nat.mod_eq_sub_mod (by omega)]; exact Nat.mod_le _ _
            omega
        rw [ih n (a % b) (b % (a % b)) (by rw [Nat.pow_succ] at h; omega) (by omega), g1, g2]
theorem common_ok {a b : Int} (h : b.natAbs < 2 ^ 40000) : o__law_common a b = (some (Nat.cast (Nat.gcd a.natAbs b.natAbs)) : Option Int) := by
  unfold o__law_common
  have e : ∀ x : Int, absT x = (x.natAbs : Int) := fun x => by unfold absT; split <;> omega
  rw [e, e, ob_some, ob_some]
  exact ob_of (common_go 40000 WW a.natAbs b.natAbs h (by show 2 * 40000 + 1 ≤ 100000; omega)) rfl
end Zz.Rt
/-! ZRt2: the law's own fractions; lines told by three integers. -/
namespace Zz.Rt
open PySem
theorem oget_0 {α : Type} {x : α} {xs : List α} : oget (x :: xs) 0 = some x := oget_ok (n := 0) rfl
theorem oget_1 {α : Type} {x y : α} {xs : List α} : oget (x :: y :: xs) 1 = some y := oget_ok (n := 1) rfl
theorem oget_2 {α : Type} {x y z : α} {xs : List α} : oget (x :: y :: z :: xs) 2 = some z := oget_ok (n := 2) rfl
theorem llowest_ok {p q : Int} (hq : q ≠ 0) (h : q.natAbs < 2 ^ 8999) : o__law_lowest p q = some (fr ((p : Rat) / (q : Rat))) := by
  have g0 : 0 < Nat.gcd p.natAbs q.natAbs := Nat.gcd_pos_of_pos_right p.natAbs (by omega)
  have gl : Nat.gcd p.natAbs q.natAbs ≤ q.natAbs := Nat.gcd_le_right _ (by omega)
  obtain ⟨h1, h2⟩ := low_num (p := p) hq
  obtain ⟨k, hk⟩ := gcd_dvd p q
  obtain ⟨l, hl⟩ := gcd_dvd2 p q
  unfold o__law_lowest fr
  rw [common_ok (Nat.lt_of_lt_of_le h (pow_le (by omega))), ob_some, ob_some, h1, h2]
  generalize Nat.gcd p.natAbs q.natAbs = g at *
  have ek : p / (g : Int) = k := by rw [hk, Int.mul_ediv_cancel_left _ (by omega)]
  have el : q / (g : Int) = l := by rw [hl, Int.mul_ediv_cancel_left _ (by omega)]
  have hs : (bif decide (q < 0) then (-(1 : Int)) else 1) = q.sign := by
    rcases Int.lt_trichotomy q 0 with hn | hn | hn
    · rw [decide_eq_true hn, Int.sign_eq_neg_one_of_neg hn]; rfl
    · exact absurd hn hq
    · rw [decide_eq_false (by omega), Int.sign_eq_one_of_pos hn]; rfl
  have hsa : q.sign.natAbs = 1 := by rw [Int.natAbs_sign_of_ne_zero hq]
  rw [hs, omul_l (by omega), ob_some, odiv_ok (by omega) (by omega), ob_some, omul_l (by omega), ob_some, odiv_ok (by omega) (by omega), ob_some, ek, el]
  have hd : ∀ z : Int, divI (q.sign * ((g : Int) * z)) (g : Int) = q.sign * z := fun z => by
    unfold divI
    rw [if_pos (by omega), ← Int.mul_assoc, Int.mul_comm q.sign, Int.mul_assoc, Int.mul_ediv_cancel_left _ (by omega)]
  have h3 := hd k
  have h4 := hd l
  rw [← hk] at h3
  rw [← hl] at h4
  rw [h3, h4]
theorem plus_ok {x y : Rat} {n m : Nat} (hx : Sz n x) (hy : Sz m y) (h : n + m ≤ 8999) : o__law_plus (fr x) (fr y) = some (fr (x + y)) := by
  have px := den_pos x
  have py := den_pos y
  have dxy := mul_lt hx.2 hy.2
  unfold o__law_plus fr
  rw [omul_sz hx.1 (m := m) (by simpa using hy.2) (by omega), ob_some, omul_sz hy.1 (m := n) (by simpa using hx.2) (by omega), ob_some, omul_sz (i := (x.den : Int)) (n := n) (m := m) (by simpa using hx.2) (by simpa using hy.2) (by omega), ob_some,
    llowest_ok (Int.ne_of_gt (Int.mul_pos (a := (x.den : Int)) (b := (y.den : Int)) (by omega) (by omega))) (by rw [Int.natAbs_mul]; exact Nat.lt_of_lt_of_le (by simpa using dxy) (pow_le h))]
  rw [ob_some]
  congr 2
  have e1 := eq_nd x
  have e2 := eq_nd y
  have d1 := den_ne x
  have d2 := den_ne y
  rw [Rat.intCast_add, Rat.intCast_mul, Rat.intCast_mul, Rat.intCast_mul]
  conv => rhs; rw [e1, e2]
  grind
theorem product_ok {x y : Rat} {n m : Nat} (hx : Sz n x) (hy : Sz m y) (h : n + m ≤ 8999) : o__law_product (fr x) (fr y) = some (fr (x * y)) := by
  have px := den_pos x
  have py := den_pos y
  have dxy := mul_lt hx.2 hy.2
  unfold o__law_product fr
  rw [omul_sz hx.1 hy.1 (by omega), ob_some, omul_sz (i := (x.den : Int)) (n := n) (m := m) (by simpa using hx.2) (by simpa using hy.2) (by omega), ob_some,
    llowest_ok (Int.ne_of_gt (Int.mul_pos (a := (x.den : Int)) (b := (y.den : Int)) (by omega) (by omega))) (by rw [Int.natAbs_mul]; exact Nat.lt_of_lt_of_le (by simpa using dxy) (pow_le h))]
  rw [ob_some]
  congr 2
  have e1 := eq_nd x
  have e2 := eq_nd y
  have d1 := den_ne x
  have d2 := den_ne y
  rw [Rat.intCast_mul, Rat.intCast_mul]
  conv => rhs; rw [e1, e2]
  grind
/-- a fraction that is not told lowest -/
theorem product_raw {x : Rat} {p q : Int} {n m : Nat} (hx : Sz n x) (hq : q ≠ 0) (hp : p.natAbs < 2 ^ m) (hq2 : q.natAbs < 2 ^ m) (h : n + m ≤ 8999) : o__law_product (fr x) (p, q) = some (fr (x * ((p : Rat) / (q : Rat)))) := by
  have px := den_pos x
  have dxy := mul_lt hx.2 hq2
  unfold o__law_product fr
  rw [omul_sz hx.1 hp (by omega), ob_some, omul_sz (i := (x.den : Int)) (n := n) (m := m) (by simpa using hx.2) hq2 (by omega), ob_some,
    llowest_ok (Int.mul_ne_zero (by omega) hq) (by rw [Int.natAbs_mul]; exact Nat.lt_of_lt_of_le (by simpa using dxy) (pow_le h))]
  rw [ob_some]
  congr 2
  have e1 := eq_nd x
  have d1 := den_ne x
  have d2 : ((q : Int) : Rat) ≠ 0 := by intro e; exact hq (by exact_mod_cast e)
  rw [Rat.intCast_mul, Rat.intCast_mul]
  conv => rhs; rw [e1]
  grind
/-! ### lines -/
structure Nm (l : List Int) (a b c : Rat) : Prop where
  e : ∃ (A B C : Int) (t : Rat), l = [A, B, C] ∧ t ≠ 0 ∧ (A : Rat) = t * a ∧ (B : Rat) = t * b ∧ (C : Rat) = t * c ∧ Nat.gcd (Nat.gcd A.natAbs B.natAbs) C.natAbs = 1 ∧ (0 < A ∨ A = 0 ∧ (0 < B ∨ B = 0 ∧ 0 < C))
theorem Nm.scale {l : List Int} {a b c s : Rat} (h : Nm l a b c) (hs : s ≠ 0) : Nm l (s * a) (s * b) (s * c) := by
  obtain ⟨A, B, C, t, e, ht, h1, h2, h3, h4, h5⟩ := h.e
  exact ⟨A, B, C, t / s, e, by grind, by rw [h1]; grind, by rw [h2]; grind, by rw [h3]; grind, h4, h5⟩
theorem cast_inj {a b : Int} (h : (a : Rat) = (b : Rat)) : a = b := by exact_mod_cast h
theorem Nm.uniq {l l' : List Int} {a b c : Rat} (h : Nm l a b c) (h' : Nm l' a b c) : l = l' := by
  obtain ⟨A, B, C, t, rfl, ht, h1, h2, h3, h4, h5⟩ := h.e
  obtain ⟨A', B', C', t', rfl, ht', h1', h2', h3', h4', h5'⟩ := h'.e
  obtain ⟨u, hu⟩ : ∃ u : Rat, u = t' / t := ⟨_, rfl⟩
  have u1 : (A' : Rat) = u * (A : Rat) := by rw [h1', h1, hu]; grind
  have u2 : (B' : Rat) = u * (B : Rat) := by rw [h2', h2, hu]; grind
  have u3 : (C' : Rat) = u * (C : Rat) := by rw [h3', h3, hu]; grind
  have hd := den_pos u
  have key : ∀ X X' : Int, (X' : Rat) = u * (X : Rat) → (u.den : Int) * X' = u.num * X := fun X X' e => by
    apply cast_inj
    rw [Rat.intCast_mul, Rat.intCast_mul, e]
    have e1 := eq_nd u
    have d1 := den_ne u
    conv => lhs; rw [e1]
    grind
  have k1 := key _ _ u1
  have k2 := key _ _ u2
  have k3 := key _ _ u3
  have hcop : Nat.Coprime u.den u.num.natAbs := Nat.Coprime.symm u.reduced
  have dv : ∀ X X' : Int, (u.den : Int) * X' = u.num * X → u.den ∣ X.natAbs := fun X X' e => by
    have : u.den ∣ u.num.natAbs * X.natAbs := by
      rw [← Int.natAbs_mul, ← e, Int.natAbs_mul]; exact ⟨X'.natAbs, by simp⟩
    exact Nat.Coprime.dvd_of_dvd_mul_left hcop this
  have hden : u.den = 1 := by
    have := Nat.dvd_gcd (Nat.dvd_gcd (dv _ _ k1) (dv _ _ k2)) (dv _ _ k3)
    rw [h4] at this
    exact Nat.dvd_one.mp this
  rw [hden] at k1 k2 k3
  simp only [Int.natCast_one, Int.one_mul] at k1 k2 k3
  have hnum : u.num.natAbs = 1 := by
    have d : ∀ X X' : Int, X' = u.num * X → u.num.natAbs ∣ X'.natAbs := fun X X' e => by rw [e, Int.natAbs_mul]; exact ⟨_, rfl⟩
    have := Nat.dvd_gcd (Nat.dvd_gcd (d _ _ k1) (d _ _ k2)) (d _ _ k3)
    rw [h4'] at this
    exact Nat.dvd_one.mp this
  rcases Int.natAbs_eq u.num with hn | hn
  · rw [hnum] at hn
    rw [hn] at k1 k2 k3
    simp only [Int.natCast_one, Int.one_mul] at k1 k2 k3
    rw [k1, k2, k3]
  · rw [hnum] at hn
    rw [hn] at k1 k2 k3
    simp only [Int.natCast_one, Int.neg_mul, Int.one_mul] at k1 k2 k3
    omega
theorem Nm.uniq2 {l l' : List Int} {a b c a' b' c' s : Rat} (h : Nm l a b c) (h' : Nm l' a' b' c') (hs : s ≠ 0) (e1 : a' = s * a) (e2 : b' = s * b) (e3 : c' = s * c) : l = l' := by
  subst e1; subst e2; subst e3
  exact (h.scale hs).uniq h'
/-- what is left to do with three integers: the program's way and the law's -/
def tailP (row : List Int) : Option (List Int) :=
  ob (some (0 : Int)) fun common14 =>
  ob (forO (σ := Int) (fun s15 x18 =>
    ob (some (gcdT s15 x18)) fun common19 =>
    some common19) row common14) fun s16 =>
  ob (olen ((row.filter fun x20 => (!(decide (x20 = (0 : Int))))).map fun x20 => x20)) fun l21 =>
  ob (oget l21 (0 : Int)) fun g22 =>
  ob (mpO (fun x23 => ob (bif (decide ((0 : Int) < g22)) then (ob (odiv x23 s16) fun t24 => some t24) else (ob (odiv (-x23) s16) fun t25 => some t25)) fun i26 => some i26) row) fun l27 =>
  ob (olen l27) fun l28 =>
  some l28
def tailL (row : List Int) : Option (List Int) :=
  ob (oget row (0 : Int)) fun g10 =>
  ob (oget row (1 : Int)) fun g11 =>
  ob (o__law_common g10 g11) fun common12 =>
  ob (oget row (2 : Int)) fun g13 =>
  ob (o__law_common common12 g13) fun common14 =>
  ob (olen ((row.filter fun x15 => (!(decide (x15 = (0 : Int))))).map fun x15 => x15)) fun l16 =>
  ob (oget l16 (0 : Int)) fun g17 =>
  ob (some (bif (decide ((0 : Int) < g17)) then common14 else (-common14))) fun part18 =>
  ob (mpO (fun x19 => ob (odiv x19 part18) fun t20 => some t20) row) fun l21 =>
  ob (olen l21) fun l22 =>
  some l22
theorem lead_ok {R1 R2 R3 : Int} (h : ¬ (R1 = 0 ∧ R2 = 0 ∧ R3 = 0)) : ∃ g rest, (([R1, R2, R3] : List Int).filter fun x => !(decide (x = 0))).map (fun x => x) = g :: rest ∧ rest.length ≤ 2 ∧ (0 < g ↔ (0 < R1 ∨ R1 = 0 ∧ (0 < R2 ∨ R2 = 0 ∧ 0 < R3))) ∧ g ≠ 0 := by
  by_cases h1 : R1 = 0
  · by_cases h2 : R2 = 0
    · have h3 : R3 ≠ 0 := fun e => h ⟨h1, h2, e⟩
      exact ⟨R3, [], by simp [h1, h2, h3], by simp, by omega, h3⟩
    · by_cases h3 : R3 = 0
      · exact ⟨R2, [], by simp [h1, h2, h3], by simp, by omega, h2⟩
      · exact ⟨R2, [R3], by simp [h1, h2, h3], by simp, by omega, h2⟩
  · by_cases h2 : R2 = 0 <;> by_cases h3 : R3 = 0
    · exact ⟨R1, [], by simp [h1, h2, h3], by simp, by omega, h1⟩
    · exact ⟨R1, [R3], by simp [h1, h2, h3], by simp, by omega, h1⟩
    · exact ⟨R1, [R2], by simp [h1, h2, h3], by simp, by omega, h1⟩
    · exact ⟨R1, [R2, R3], by simp [h1, h2, h3], by simp, by omega, h1⟩
theorem tail_ok {R1 R2 R3 : Int} {N : Nat} {W a b c : Rat} (h : ¬ (R1 = 0 ∧ R2 = 0 ∧ R3 = 0)) (b1 : R1.natAbs < 2 ^ N) (b2 : R2.natAbs < 2 ^ N) (b3 : R3.natAbs < 2 ^ N) (hN : N ≤ 8999) (hW : W ≠ 0) (e1 : (R1 : Rat) = W * a) (e2 : (R2 : Rat) = W * b) (e3 : (R3 : Rat) = W * c) :
    ∃ l, Nm l a b c ∧ (∀ A, A ∈ l → A.natAbs < 2 ^ N) ∧ tailP [R1, R2, R3] = some l ∧ tailL [R1, R2, R3] = some l := by
  obtain ⟨G, hG⟩ : ∃ G, G = Nat.gcd (Nat.gcd R1.natAbs R2.natAbs) R3.natAbs := ⟨_, rfl⟩
  have d1 : G ∣ R1.natAbs := by rw [hG]; exact Nat.dvd_trans (Nat.gcd_dvd_left _ _) (Nat.gcd_dvd_left _ _)
  have d2 : G ∣ R2.natAbs := by rw [hG]; exact Nat.dvd_trans (Nat.gcd_dvd_left _ _) (Nat.gcd_dvd_right _ _)
  have d3 : G ∣ R3.natAbs := by rw [hG]; exact Nat.gcd_dvd_right _ _
  have G0 : 0 < G := by
    rcases Nat.eq_zero_or_pos G with e | e
    · subst e
      rw [Nat.zero_dvd] at d1 d2 d3
      exact absurd ⟨by omega, by omega, by omega⟩ h
    · exact e
  have GN : G < 2 ^ 8999 := by
    have hb : ∀ R : Int, R ≠ 0 → R.natAbs < 2 ^ N → G ∣ R.natAbs → G < 2 ^ 8999 := fun R hR hb hd =>
      Nat.lt_of_le_of_lt (Nat.le_of_dvd (by omega) hd) (Nat.lt_of_lt_of_le hb (pow_le hN))
    by_cases z1 : R1 = 0
    · by_cases z2 : R2 = 0
      · exact hb R3 (fun e => h ⟨z1, z2, e⟩) b3 d3
      · exact hb R2 z2 b2 d2
    · exact hb R1 z1 b1 d1
  obtain ⟨k1, r1⟩ : ∃ k, R1 = (G : Int) * k := Int.ofNat_dvd_left.mpr d1
  obtain ⟨k2, r2⟩ : ∃ k, R2 = (G : Int) * k := Int.ofNat_dvd_left.mpr d2
  obtain ⟨k3, r3⟩ : ∃ k, R3 = (G : Int) * k := Int.ofNat_dvd_left.mpr d3
  have n : ∀ k : Int, ((G : Int) * k).natAbs = G * k.natAbs := fun k => by rw [Int.natAbs_mul]; simp
  have hk : Nat.gcd (Nat.gcd k1.natAbs k2.natAbs) k3.natAbs = 1 := by
    have : G * Nat.gcd (Nat.gcd k1.natAbs k2.natAbs) k3.natAbs = G * 1 := by
      rw [← Nat.gcd_mul_left, ← Nat.gcd_mul_left, ← n, ← n, ← n, ← r1, ← r2, ← r3, ← hG, Nat.mul_one]
    exact Nat.eq_of_mul_eq_mul_left G0 this
  obtain ⟨g, rest, hf, hrest, hlead, hg0⟩ := lead_ok h
  obtain ⟨s, hs, hs2⟩ : ∃ s : Int, s = (if 0 < g then 1 else -1) ∧ (s = 1 ∨ s = -1) := ⟨_, rfl, by split <;> simp⟩
  have G0' : (0 : Int) < (G : Int) := by omega
  have GR : ((G : Int) : Rat) ≠ 0 := by intro e; have := cast_inj (b := 0) e; omega
  have sR : (s : Rat) ≠ 0 := by rcases hs2 with e | e <;> rw [e] <;> decide
  have ss : (s : Rat) * (s : Rat) = 1 := by rcases hs2 with e | e <;> rw [e, ← Rat.intCast_mul] <;> rfl
  have bk : ∀ k : Int, (s * k).natAbs ≤ G * k.natAbs := fun k => by
    have : (s * k).natAbs = k.natAbs := by rcases hs2 with e | e <;> rw [e] <;> simp
    rw [this]; exact Nat.le_mul_of_pos_left _ G0
  have en : ∀ (R k : Int) (x : Rat), R = (G : Int) * k → (R : Rat) = W * x → ((s * k : Int) : Rat) = (s : Rat) * W / ((G : Int) : Rat) * x := fun R k x hR hx => by
    have : (k : Rat) = (R : Rat) / ((G : Int) : Rat) := by rw [hR, Rat.intCast_mul]; grind
    rw [Rat.intCast_mul, this, hx]; grind
  refine ⟨[s * k1, s * k2, s * k3], ⟨s * k1, s * k2, s * k3, (s : Rat) * W / ((G : Int) : Rat), rfl, by grind, en _ _ _ r1 e1, en _ _ _ r2 e2, en _ _ _ r3 e3, ?_, ?_⟩, ?_, ?_, ?_⟩
  · have ns : ∀ k : Int, (s * k).natAbs = k.natAbs := fun k => by rcases hs2 with e | e <;> rw [e] <;> simp
    rw [ns, ns, ns]; exact hk
  · have q : ∀ k : Int, (0 < (G : Int) * k ↔ 0 < k) := fun k => ⟨fun z => Int.lt_of_mul_lt_mul_left (a := (G : Int)) (by rw [Int.mul_zero]; exact z) (by omega), fun z => Int.mul_pos G0' z⟩
    have q0 : ∀ k : Int, ((G : Int) * k = 0 ↔ k = 0) := fun k => ⟨fun z => by rcases Int.mul_eq_zero.mp z with z | z <;> omega, fun z => by rw [z, Int.mul_zero]⟩
    rw [r1, r2, r3, q, q, q, q0, q0] at hlead
    rw [r1, r2, r3, q0, q0, q0] at h
    rw [hs]
    split
    · rename_i hp
      have := hlead.mp hp
      simp only [Int.one_mul]; exact this
    · rename_i hp
      have : ¬ _ := fun z => hp (hlead.mpr z)
      simp only [Int.neg_mul, Int.one_mul]
      omega
  · intro A hA
    simp only [List.mem_cons, List.not_mem_nil, or_false] at hA
    rcases hA with rfl | rfl | rfl
    · exact Nat.lt_of_le_of_lt (bk k1) (by rw [← n, ← r1]; exact b1)
    · exact Nat.lt_of_le_of_lt (bk k2) (by rw [← n, ← r2]; exact b2)
    · exact Nat.lt_of_le_of_lt (bk k3) (by rw [← n, ← r3]; exact b3)
  · unfold tailP
    have hgc : forO (σ := Int) (fun s15 x18 => ob (some (gcdT s15 x18)) fun common19 => some common19) [R1, R2, R3] 0 = some (G : Int) := by
      simp only [forO, ob_some, gcdT, Int.natAbs_zero, Nat.gcd_zero_left, Int.natAbs_natCast, hG]
    rw [ob_some, hgc, ob_some, hf, olen_ok (by simp; omega), ob_some, oget_0, ob_some]
    have hm : ∀ k : Int, (ob (bif (decide ((0 : Int) < g)) then (ob (odiv ((G : Int) * k) (G : Int)) fun t24 => some t24) else (ob (odiv (-((G : Int) * k)) (G : Int)) fun t25 => some t25)) fun i26 => some i26) = some (s * k) := fun k => by
      have od : ∀ z : Int, odiv ((G : Int) * z) (G : Int) = some z := fun z => by
        rw [odiv_ok (by omega) (by simpa using GN)]
        unfold divI
        rw [if_pos G0', Int.mul_ediv_cancel_left _ (by omega)]
      by_cases hp : 0 < g
      · rw [decide_eq_true hp, cond_true, od, hs, if_pos hp, Int.one_mul]; rfl
      · rw [decide_eq_false hp, cond_false, ← Int.mul_neg, od, hs, if_neg hp, Int.neg_mul, Int.one_mul]; rfl
    have hmp : mpO (fun x23 => ob (bif (decide ((0 : Int) < g)) then (ob (odiv x23 (G : Int)) fun t24 => some t24) else (ob (odiv (-x23) (G : Int)) fun t25 => some t25)) fun i26 => some i26) [R1, R2, R3] = some [s * k1, s * k2, s * k3] := by
      simp only [mpO]
      rw [r1, r2, r3, hm, hm, hm]; rfl
    rw [hmp, ob_some, olen_ok (by simp), ob_some]
  · unfold tailL
    have c0 : oget [R1, R2, R3] 0 = some R1 := oget_ok (n := 0) rfl
    have c1 : oget [R1, R2, R3] 1 = some R2 := oget_ok (n := 1) rfl
    have c2 : oget [R1, R2, R3] 2 = some R3 := oget_ok (n := 2) rfl
    rw [c0, ob_some, c1, ob_some, common_ok (Nat.lt_of_lt_of_le b2 (pow_le (by omega))), ob_some, c2, ob_some, common_ok (Nat.lt_of_lt_of_le b3 (pow_le (by omega))), ob_some, Int.natAbs_natCast, ← hG, hf, olen_ok (by simp; omega), ob_some, oget_0, ob_some, ob_some]
    have hp2 : (bif decide ((0 : Int) < g) then (G : Int) else -(G : Int)) = s * (G : Int) := by
      by_cases hp : 0 < g
      · rw [decide_eq_true hp, hs, if_pos hp, Int.one_mul]; rfl
      · rw [decide_eq_false hp, hs, if_neg hp, Int.neg_mul, Int.one_mul]; rfl
    rw [hp2]
    have od : ∀ k : Int, odiv ((G : Int) * k) (s * (G : Int)) = some (s * k) := fun k => by
      rcases hs2 with e | e
      · rw [e, Int.one_mul, Int.one_mul, odiv_ok (by omega) (by simpa using GN)]
        unfold divI
        rw [if_pos G0', Int.mul_ediv_cancel_left _ (by omega)]
      · rw [e, Int.neg_mul, Int.one_mul, Int.neg_mul, Int.one_mul, odiv_ok (by omega) (by simpa using GN)]
        unfold divI
        rw [if_neg (by omega), show (G : Int) * k = -(G : Int) * (-k) by rw [Int.neg_mul, Int.mul_neg, Int.neg_neg], Int.mul_fdiv_cancel_left _ (by omega)]
    have hmp : mpO (fun x19 => ob (odiv x19 (s * (G : Int))) fun t20 => some t20) [R1, R2, R3] = some [s * k1, s * k2, s * k3] := by
      simp only [mpO]
      rw [r1, r2, r3, od, od, od]; rfl
    rw [hmp, ob_some, olen_ok (by simp), ob_some]
end Zz.Rt
/-! ZRt3: lines through places. -/
namespace Zz.Rt
open PySem
def Bd (n : Nat) (z : Int) : Prop := z.natAbs < 2 ^ n
theorem Bd.mono {n m : Nat} {z : Int} (h : Bd n z) (k : n ≤ m) : Bd m z := Nat.lt_of_lt_of_le h (pow_le k)
theorem bd_add {n m : Nat} {x y : Int} (hx : Bd n x) (hy : Bd m y) : Bd (max n m + 1) (x + y) := by
  unfold Bd at *
  have := Int.natAbs_add_le x y
  have a := pow_le (Nat.le_max_left n m)
  have b := pow_le (Nat.le_max_right n m)
  rw [Nat.pow_succ]; omega
theorem bd_neg {n : Nat} {x : Int} (hx : Bd n x) : Bd n (-x) := by unfold Bd at *; simpa using hx
theorem bd_sub {n m : Nat} {x y : Int} (hx : Bd n x) (hy : Bd m y) : Bd (max n m + 1) (x - y) := by rw [Int.sub_eq_add_neg]; exact bd_add hx (bd_neg hy)
theorem bd_mul {n m : Nat} {x y : Int} (hx : Bd n x) (hy : Bd m y) : Bd (n + m) (x * y) := by unfold Bd at *; rw [Int.natAbs_mul]; exact mul_lt hx hy
theorem Sz.num {n : Nat} {x : Rat} (h : Sz n x) : Bd n x.num := h.1
theorem Sz.den {n : Nat} {x : Rat} (h : Sz n x) : Bd n (x.den : Int) := by unfold Bd; simpa using h.2
theorem omul_bd {i j : Int} {n m : Nat} (h1 : Bd n i) (h2 : Bd m j) (h : n + m ≤ 900000) : omul i j = some (i * j) := omul_sz h1 h2 h
theorem dvd_row {x : Rat} {M : Nat} (h : x.den ∣ M) (hM : M ≠ 0) : ((x.num * ((M / x.den : Nat) : Int) : Int) : Rat) = ((M : Int) : Rat) * x := by
  obtain ⟨k, rfl⟩ := h
  rw [Nat.mul_div_cancel_left _ (den_pos x), Int.natCast_mul, Rat.intCast_mul, Rat.intCast_mul]
  have e1 := eq_nd x
  have d1 := den_ne x
  conv => rhs; rw [e1]
  grind
theorem lcm_step {s q n m : Nat} (hs : 0 < s) (hq : 0 < q) (b1 : s < 2 ^ n) (b2 : q < 2 ^ m) (h : n + m ≤ 8999) : (ob (omul (s : Int) (q : Int)) fun t7 => ob (odiv t7 (gcdT (s : Int) (q : Int))) fun t8 => some t8) = some ((Nat.lcm s q : Nat) : Int) := by
  rw [omul_sz (n := n) (m := m) (by simpa using b1) (by simpa using b2) (by omega), ob_some]
  have hg : gcdT (s : Int) (q : Int) = ((Nat.gcd s q : Nat) : Int) := by simp [gcdT]
  have g0 := Nat.gcd_pos_of_pos_left q hs
  have gl := Nat.gcd_le_left q hs
  have : Nat.gcd s q < 2 ^ 8999 := Nat.lt_of_le_of_lt gl (Nat.lt_of_lt_of_le b1 (pow_le (by omega)))
  rw [hg, odiv_ok (by omega) (by simpa using this), ob_some]
  unfold divI
  rw [if_pos (by omega)]
  rfl
theorem int_of {p : Int} {x : Rat} {W : Rat} (hW : W ≠ 0) (e : (p : Rat) = W * x) : p = 0 ↔ x = 0 := by
  constructor
  · rintro rfl
    have : W * x = 0 := by rw [← e]; rfl
    rcases Rat.mul_eq_zero.mp this with z | z
    · exact absurd z hW
    · exact z
  · intro z
    rw [z, Rat.mul_zero] at e
    exact cast_inj e
theorem nat_ne {M : Nat} (h : 0 < M) : ((M : Int) : Rat) ≠ 0 := by intro e; have := cast_inj (b := 0) e; omega
theorem row_bd {x : Rat} {M n e : Nat} {p : Nat} (hn : Bd n x.num) (hM : M ≤ x.den * p) (hp : p < 2 ^ e) : Bd (n + e) (x.num * ((M / x.den : Nat) : Int)) := by
  have px := den_pos x
  have : M / x.den ≤ p := by
    have := Nat.div_le_div_right (c := x.den) hM
    rwa [Nat.mul_div_cancel_left _ px] at this
  exact bd_mul hn (by unfold Bd; simp only [Int.natAbs_natCast]; omega)
structure Sd (n d : Nat) (x : Rat) : Prop where
  n : Bd n x.num
  d : x.den < 2 ^ d
theorem told_ok {a b c : Rat} {na da nb db nc dc N : Nat} (ha : Sd na da a) (hb : Sd nb db b) (hc : Sd nc dc c) (h : ¬ (a = 0 ∧ b = 0 ∧ c = 0)) (hN : N ≤ 8999) (h1 : na + (db + dc) ≤ N) (h2 : nb + (da + dc) ≤ N) (h3 : nc + (da + db) ≤ N) (h4 : da + db + dc ≤ 8998) :
    ∃ l, o_told_integers [fr a, fr b, fr c] = some l ∧ o__law_line (fr a) (fr b) (fr c) = some l ∧ Nm l a b c ∧ ∀ A, A ∈ l → Bd N A := by
  have pa := den_pos a
  have pb := den_pos b
  have pc := den_pos c
  have l1 : Nat.lcm 1 a.den = a.den := Nat.lcm_one_left _
  obtain ⟨M2, hM2⟩ : ∃ M, M = Nat.lcm a.den b.den := ⟨_, rfl⟩
  have p2 : 0 < M2 := by rw [hM2]; exact Nat.lcm_pos pa pb
  have t2 : M2 ≤ a.den * b.den := by rw [hM2]; exact Nat.div_le_self _ _
  have s2 : M2 < 2 ^ (da + db) := by have := mul_lt ha.d hb.d; omega
  obtain ⟨M, hM⟩ : ∃ M, M = Nat.lcm M2 c.den := ⟨_, rfl⟩
  have p3 : 0 < M := by rw [hM]; exact Nat.lcm_pos p2 pc
  have t3 : M ≤ a.den * b.den * c.den := by
    have : M ≤ M2 * c.den := by rw [hM]; exact Nat.div_le_self _ _
    exact Nat.le_trans this (Nat.mul_le_mul_right _ t2)
  have s3 : M < 2 ^ (da + db + dc) := Nat.lt_of_le_of_lt t3 (mul_lt (mul_lt ha.d hb.d) hc.d)
  have dda : a.den ∣ M := by rw [hM, hM2]; exact Nat.dvd_trans (Nat.dvd_lcm_left _ _) (Nat.dvd_lcm_left _ _)
  have ddb : b.den ∣ M := by rw [hM, hM2]; exact Nat.dvd_trans (Nat.dvd_lcm_right _ _) (Nat.dvd_lcm_left _ _)
  have ddc : c.den ∣ M := by rw [hM]; exact Nat.dvd_lcm_right _ _
  -- the program's way and the law's differ in what they multiply by
  have gen : ∀ M : Nat, 0 < M → M ≤ a.den * b.den * c.den → a.den ∣ M → b.den ∣ M → c.den ∣ M → ∃ l, Nm l a b c ∧ (∀ A, A ∈ l → Bd N A) ∧ tailP [a.num * ((M / a.den : Nat) : Int), b.num * ((M / b.den : Nat) : Int), c.num * ((M / c.den : Nat) : Int)] = some l ∧ tailL [a.num * ((M / a.den : Nat) : Int), b.num * ((M / b.den : Nat) : Int), c.num * ((M / c.den : Nat) : Int)] = some l := fun M p3 t3 dda ddb ddc => by
    have W := nat_ne p3
    have e1 := dvd_row dda (by omega)
    have e2 := dvd_row ddb (by omega)
    have e3 := dvd_row ddc (by omega)
    exact tail_ok (N := N) (by rw [int_of W e1, int_of W e2, int_of W e3]; exact h)
      ((row_bd ha.n (p := b.den * c.den) (by rw [← Nat.mul_assoc]; exact t3) (mul_lt hb.d hc.d)).mono h1)
      ((row_bd hb.n (p := a.den * c.den) (by rw [← Nat.mul_assoc, Nat.mul_comm b.den]; exact t3) (mul_lt ha.d hc.d)).mono h2)
      ((row_bd hc.n (p := a.den * b.den) (by rw [Nat.mul_comm c.den]; exact t3) (mul_lt ha.d hb.d)).mono h3) hN W e1 e2 e3
  have od : ∀ (M : Nat) (x : Rat) (d : Nat), x.den < 2 ^ d → d ≤ 8999 → odiv (M : Int) (x.den : Int) = some ((M / x.den : Nat) : Int) := fun M x d hx hd => by
    have px := den_pos x
    rw [odiv_ok (by omega) (by simpa using Nat.lt_of_lt_of_le hx (pow_le hd))]
    unfold divI; rw [if_pos (by omega)]; rfl
  have bq : ∀ (M : Nat) (x : Rat), M < 2 ^ (da + db + dc) → Bd (da + db + dc) ((M / x.den : Nat) : Int) := fun M x hM => by
    unfold Bd
    have := Nat.div_le_self M x.den
    simp only [Int.natAbs_natCast]; omega
  obtain ⟨l, hl2, hl3, hl4, _⟩ := gen M p3 t3 dda ddb ddc
  have p5 : 0 < a.den * b.den * c.den := Nat.mul_pos (Nat.mul_pos pa pb) pc
  have s5 : a.den * b.den * c.den < 2 ^ (da + db + dc) := mul_lt (mul_lt ha.d hb.d) hc.d
  obtain ⟨l', hl2', _, _, hl5⟩ := gen (a.den * b.den * c.den) p5 (Nat.le_refl _) (by rw [Nat.mul_assoc]; exact ⟨_, rfl⟩) (by rw [Nat.mul_comm a.den, Nat.mul_assoc]; exact ⟨_, rfl⟩) (by rw [Nat.mul_comm]; exact ⟨_, rfl⟩)
  obtain rfl := hl2.uniq hl2'
  refine ⟨l, ?_, ?_, hl2, hl3⟩
  · have hfo : forO (σ := Int) (fun s2 (x6 : Int × Int) => ob (omul s2 x6.2) fun t7 => ob (odiv t7 (gcdT s2 x6.2)) fun t8 => some t8) [fr a, fr b, fr c] (1 : Int) = some (M : Int) := by
      have f1 := lcm_step (s := 1) (q := a.den) (n := 1) (m := da) (by omega) pa (by decide) ha.d (by omega)
      have f2 := lcm_step (s := a.den) (q := b.den) pa pb ha.d hb.d (by omega)
      have f3 := lcm_step (s := M2) (q := c.den) p2 pc s2 hc.d (by omega)
      rw [l1] at f1
      rw [← hM2] at f2
      rw [← hM] at f3
      simp only [forO, fr]
      have f1 : (ob (omul 1 (a.den : Int)) fun t7 => ob (odiv t7 (gcdT 1 (a.den : Int))) fun t8 => some t8) = some (a.den : Int) := f1
      rw [f1, ob_some, f2, ob_some, f3, ob_some]
    have hmp : mpO (fun x9 => ob (odiv (M : Int) x9.2) fun t10 => ob (omul x9.1 t10) fun t11 => some t11) [fr a, fr b, fr c] = some [a.num * ((M / a.den : Nat) : Int), b.num * ((M / b.den : Nat) : Int), c.num * ((M / c.den : Nat) : Int)] := by
      have one : ∀ (x : Rat) (n d : Nat), Sd n d x → d ≤ 8999 → n ≤ 8999 → (ob (odiv (M : Int) (x.den : Int)) fun t10 => ob (omul x.num t10) fun t11 => some t11) = some (x.num * ((M / x.den : Nat) : Int)) := fun x n d hx hd hn => by
        rw [od M x d hx.d hd, ob_some, omul_bd hx.n (bq M x s3) (by omega)]; rfl
      simp only [mpO, fr]
      rw [one a na da ha (by omega) (by omega), one b nb db hb (by omega) (by omega), one c nc dc hc (by omega) (by omega)]; rfl
    unfold o_told_integers
    rw [ob_some, hfo, ob_some, hmp, ob_some, olen_ok (by simp), ob_some]
    exact hl4
  · unfold o__law_line
    have hw : (a.den : Int) * (b.den : Int) * (c.den : Int) = ((a.den * b.den * c.den : Nat) : Int) := by rw [Int.natCast_mul, Int.natCast_mul]
    have dn : ∀ (x : Rat) (d : Nat), x.den < 2 ^ d → Bd d (x.den : Int) := fun x d h => by unfold Bd; simpa using h
    simp only [fr]
    rw [omul_bd (dn a da ha.d) (dn b db hb.d) (by omega), ob_some, omul_bd (bd_mul (dn a da ha.d) (dn b db hb.d)) (dn c dc hc.d) (by omega), ob_some, hw, od _ a da ha.d (by omega), ob_some, omul_bd ha.n (bq _ a s5) (by omega), ob_some, od _ b db hb.d (by omega), ob_some, omul_bd hb.n (bq _ b s5) (by omega), ob_some, od _ c dc hc.d (by omega), ob_some, omul_bd hc.n (bq _ c s5) (by omega), ob_some, ob_some]
    exact hl5
/-- bounds from any way to write it -/
theorem sd_of {x : Rat} {p q : Int} {n d : Nat} (hq : q ≠ 0) (e : x = (p : Rat) / (q : Rat)) (hp : Bd n p) (hq2 : Bd d q) : Sd n d x := by
  obtain ⟨h1, h2⟩ := low_num (p := p) hq
  have g0 : 0 < Nat.gcd p.natAbs q.natAbs := Nat.gcd_pos_of_pos_right p.natAbs (by omega)
  obtain ⟨k, hk⟩ := gcd_dvd p q
  obtain ⟨l, hl⟩ := gcd_dvd2 p q
  rw [← e] at h1 h2
  generalize Nat.gcd p.natAbs q.natAbs = g at *
  have ek : p / (g : Int) = k := by rw [hk, Int.mul_ediv_cancel_left _ (by omega)]
  have el : q / (g : Int) = l := by rw [hl, Int.mul_ediv_cancel_left _ (by omega)]
  rw [ek] at h1
  rw [el] at h2
  have hs : q.sign.natAbs = 1 := by rw [Int.natAbs_sign_of_ne_zero hq]
  have b1 : x.num.natAbs = k.natAbs := by rw [h1, Int.natAbs_mul, hs, Nat.one_mul]
  have b2 : x.den = l.natAbs := by
    have : ((x.den : Nat) : Int).natAbs = l.natAbs := by rw [h2, Int.natAbs_mul, hs, Nat.one_mul]
    simpa using this
  have c1 : p.natAbs = g * k.natAbs := by rw [hk, Int.natAbs_mul]; simp
  have c2 : q.natAbs = g * l.natAbs := by rw [hl, Int.natAbs_mul]; simp
  have d1 : k.natAbs ≤ g * k.natAbs := Nat.le_mul_of_pos_left _ g0
  have d2 : l.natAbs ≤ g * l.natAbs := Nat.le_mul_of_pos_left _ g0
  unfold Bd at hp hq2
  exact ⟨by unfold Bd; omega, by omega⟩
theorem sd_int {k : Int} {n : Nat} (h : Bd n k) : Sd n 1 (k : Rat) := ⟨by rw [Rat.num_intCast]; exact h, by rw [Rat.den_intCast]; decide⟩
end Zz.Rt
/-! ZRt4: lines that meet, mirror images. -/
namespace Zz.Rt
open PySem
abbrev plc (x y : Rat) : (Int × Int) × (Int × Int) := (fr x, fr y)
theorem plc_inj {x y x' y' : Rat} : plc x y = plc x' y' ↔ x = x' ∧ y = y' := by
  rw [Prod.mk.injEq, fr_inj, fr_inj]
structure Ld (l : List Int) (A B C : Int) (n : Nat) : Prop where
  e : l = [A, B, C]
  a : Bd n A
  b : Bd n B
  c : Bd n C
  ne : ¬ (A = 0 ∧ B = 0)
theorem Nm.ld {l : List Int} {a b c : Rat} {n : Nat} (h : Nm l a b c) (hb : ∀ A, A ∈ l → Bd n A) (h0 : ¬ (a = 0 ∧ b = 0)) : ∃ A B C t, Ld l A B C n ∧ t ≠ 0 ∧ (A : Rat) = t * a ∧ (B : Rat) = t * b ∧ (C : Rat) = t * c := by
  obtain ⟨A, B, C, t, rfl, ht, e1, e2, e3, _, _⟩ := h.e
  exact ⟨A, B, C, t, ⟨rfl, hb A (by simp), hb B (by simp), hb C (by simp), by rw [int_of ht e1, int_of ht e2]; exact h0⟩, ht, e1, e2, e3⟩
theorem sz0 : Sz 1 (0 : Rat) := ⟨by decide, by decide⟩
theorem sz1 : Sz 1 (1 : Rat) := ⟨by decide, by decide⟩
theorem sz2 : Sz 2 (2 : Rat) := ⟨by decide, by decide⟩
theorem szi {A : Int} {n : Nat} (h : Bd n A) : Sz (n + 1) (A : Rat) := sz_int (h.mono (by omega)) (by omega)
section
variable {x y x1 y1 x2 y2 : Rat} {k n m : Nat} {A B C : Int} {l : List Int}
theorem joined_ok (h1 : Sz k x1) (h2 : Sz k y1) (h3 : Sz k x2) (h4 : Sz k y2) (hne : ¬ (x1 = x2 ∧ y1 = y2)) (hk : 8 * k + 3 ≤ 8990) :
    ∃ l, o_joined (plc x1 y1) (plc x2 y2) = some l ∧ o__law_through (plc x1 y1) (plc x2 y2) = some l ∧ Nm l (y1 - y2) (x2 - x1) (0 - ((y1 - y2) * x1 + (x2 - x1) * y1)) ∧ ∀ A, A ∈ l → Bd (8 * k + 3) A := by
  have sa : Sz (k + k + 1) (y1 - y2) := sz_sub h2 h4
  have sb : Sz (k + k + 1) (x2 - x1) := sz_sub h3 h1
  have sp := sz_mul sa h1
  have sq := sz_mul sb h2
  have ss := sz_add sp sq
  have sc := sz_sub sz0 ss
  have hn : ¬ (y1 - y2 = 0 ∧ x2 - x1 = 0 ∧ 0 - ((y1 - y2) * x1 + (x2 - x1) * y1) = 0) := fun z => hne ⟨by grind, by grind⟩
  have p1 := den_pos x1
  have p2 := den_pos y1
  have p3 := den_pos x2
  have p4 := den_pos y2
  have n1 := eq_nd x1
  have n2 := eq_nd y1
  have n3 := eq_nd x2
  have n4 := eq_nd y2
  have m1 := den_ne x1
  have m2 := den_ne y1
  have m3 := den_ne x2
  have m4 := den_ne y2
  have da : Sd (2 * k + 1) (2 * k) (y1 - y2) := by
    refine sd_of (p := y1.num * (y2.den : Int) - y2.num * (y1.den : Int)) (q := (y1.den : Int) * (y2.den : Int)) (Int.ne_of_gt (Int.mul_pos (by omega) (by omega))) ?_ ((bd_sub (bd_mul h2.num h4.den) (bd_mul h4.num h2.den)).mono (by omega)) ((bd_mul h2.den h4.den).mono (by omega))
    rw [Rat.intCast_sub, Rat.intCast_mul, Rat.intCast_mul, Rat.intCast_mul]
    conv => lhs; rw [n2, n4]
    grind
  have db : Sd (2 * k + 1) (2 * k) (x2 - x1) := by
    refine sd_of (p := x2.num * (x1.den : Int) - x1.num * (x2.den : Int)) (q := (x2.den : Int) * (x1.den : Int)) (Int.ne_of_gt (Int.mul_pos (by omega) (by omega))) ?_ ((bd_sub (bd_mul h3.num h1.den) (bd_mul h1.num h3.den)).mono (by omega)) ((bd_mul h3.den h1.den).mono (by omega))
    rw [Rat.intCast_sub, Rat.intCast_mul, Rat.intCast_mul, Rat.intCast_mul]
    conv => lhs; rw [n3, n1]
    grind
  have dc : Sd (4 * k + 1) (4 * k) (0 - ((y1 - y2) * x1 + (x2 - x1) * y1)) := by
    refine sd_of (p := (y2.num * x1.num) * ((x2.den : Int) * (y1.den : Int)) - (x2.num * y1.num) * ((y2.den : Int) * (x1.den : Int))) (q := ((y2.den : Int) * (x1.den : Int)) * ((x2.den : Int) * (y1.den : Int))) (Int.ne_of_gt (Int.mul_pos (Int.mul_pos (by omega) (by omega)) (Int.mul_pos (by omega) (by omega)))) ?_
      ((bd_sub (bd_mul (bd_mul h4.num h1.num) (bd_mul h3.den h2.den)) (bd_mul (bd_mul h3.num h2.num) (bd_mul h4.den h1.den))).mono (by omega)) ((bd_mul (bd_mul h4.den h1.den) (bd_mul h3.den h2.den)).mono (by omega))
    simp only [Rat.intCast_sub, Rat.intCast_mul]
    generalize (x1.num : Rat) = a1 at *
    generalize ((x1.den : Int) : Rat) = b1 at *
    generalize (y1.num : Rat) = a2 at *
    generalize ((y1.den : Int) : Rat) = b2 at *
    generalize (x2.num : Rat) = a3 at *
    generalize ((x2.den : Int) : Rat) = b3 at *
    generalize (y2.num : Rat) = a4 at *
    generalize ((y2.den : Int) : Rat) = b4 at *
    subst n1; subst n2; subst n3; subst n4
    grind
  obtain ⟨l, hl1, hl1', hl2, hl3⟩ := told_ok (N := 8 * k + 3) da db dc hn (by omega) (by omega) (by omega) (by omega) (by omega)
  refine ⟨l, ?_, ?_, hl2, hl3⟩
  · unfold o_joined
    rw [sub_ok h2 h4 (by omega), ob_some, sub_ok h3 h1 (by omega), ob_some, mul_ok sa h1 (by omega), ob_some, mul_ok sb h2 (by omega), ob_some, add_ok sp sq (by omega), ob_some, fr0, sub_ok sz0 ss (by omega), ob_some, hl1, ob_some]
  · unfold o__law_through
    simp only [fr_neg]
    rw [plus_ok h2 (sz_neg h4) (by omega), ob_some, ← Rat.sub_eq_add_neg, plus_ok h3 (sz_neg h1) (by omega), ob_some, ← Rat.sub_eq_add_neg, product_ok sa h1 (by omega), ob_some, product_ok sb h2 (by omega), ob_some, plus_ok sp sq (by omega), ob_some]
    have e : -((y1 - y2) * x1 + (x2 - x1) * y1) = 0 - ((y1 - y2) * x1 + (x2 - x1) * y1) := by grind
    rw [fr_neg, e, hl1', ob_some]
theorem linethrough_ok (hA : Bd n A) (hB : Bd n B) (hne : ¬ (A = 0 ∧ B = 0)) (hx : Sz k x) (hy : Sz k y) (hk : 2 * n + 2 * k + 9 ≤ 8900) :
    ∃ l, o_line_through A B (plc x y) = some l ∧ o__law_line (fr (A : Rat)) (fr (B : Rat)) (fr (0 - ((A : Rat) * x + (B : Rat) * y))) = some l ∧ Nm l (A : Rat) (B : Rat) (0 - ((A : Rat) * x + (B : Rat) * y)) ∧ ∀ A, A ∈ l → Bd (n + 2 * k + 3) A := by
  have sa := szi hA
  have sb := szi hB
  have sp := sz_mul sa hx
  have sq := sz_mul sb hy
  have ss := sz_add sp sq
  have sc := sz_sub sz0 ss
  have hn : ¬ ((A : Rat) = 0 ∧ (B : Rat) = 0 ∧ 0 - ((A : Rat) * x + (B : Rat) * y) = 0) := fun z => hne ⟨cast_inj (b := 0) z.1, cast_inj (b := 0) z.2.1⟩
  have p1 := den_pos x
  have p2 := den_pos y
  have n1 := eq_nd x
  have n2 := eq_nd y
  have m1 := den_ne x
  have m2 := den_ne y
  have dc : Sd (n + 2 * k + 1) (2 * k) (0 - ((A : Rat) * x + (B : Rat) * y)) := by
    refine sd_of (p := -(A * (x.num * (y.den : Int)) + B * (y.num * (x.den : Int)))) (q := (x.den : Int) * (y.den : Int)) (Int.ne_of_gt (Int.mul_pos (by omega) (by omega))) ?_
      ((bd_neg (bd_add (bd_mul hA (bd_mul hx.num hy.den)) (bd_mul hB (bd_mul hy.num hx.den)))).mono (by omega)) ((bd_mul hx.den hy.den).mono (by omega))
    simp only [Rat.intCast_neg, Rat.intCast_add, Rat.intCast_mul]
    generalize (x.num : Rat) = a1 at *
    generalize ((x.den : Int) : Rat) = b1 at *
    generalize (y.num : Rat) = a2 at *
    generalize ((y.den : Int) : Rat) = b2 at *
    subst n1; subst n2
    grind
  obtain ⟨l, hl1, hl1', hl2, hl3⟩ := told_ok (N := n + 2 * k + 3) (sd_int hA) (sd_int hB) dc hn (by omega) (by omega) (by omega) (by omega) (by omega)
  refine ⟨l, ?_, hl1', hl2, hl3⟩
  unfold o_line_through
  rw [← fr_int A, ← fr_int B, mul_ok sa hx (by omega), ob_some, mul_ok sb hy (by omega), ob_some, add_ok sp sq (by omega), ob_some, fr0, sub_ok sz0 ss (by omega), ob_some, hl1, ob_some]
theorem upright_eq (h : Ld l A B C n) (p : (Int × Int) × (Int × Int)) : o_upright_through l p = o_line_through B (-A) p := by
  unfold o_upright_through
  rw [h.e, oget_1, ob_some, oget_0, ob_some]
  cases o_line_through B (-A) p <;> rfl
theorem met_ok {l' : List Int} {A' B' C' : Int} (h : Ld l A B C n) (h' : Ld l' A' B' C' m) (hlow : A * B' - A' * B ≠ 0) (hk : n + m ≤ 4000) :
    o_met l l' = some (some (plc (((B * C' - B' * C : Int) : Rat) / ((A * B' - A' * B : Int) : Rat)) (((A' * C - A * C' : Int) : Rat) / ((A * B' - A' * B : Int) : Rat)))) := by
  have hl : ((A * B' - A' * B : Int) : Rat) ≠ 0 := fun e => hlow (cast_inj (b := 0) e)
  have b1 : Bd (n + m + 1) (A * B' - A' * B) := (bd_sub (bd_mul h.a h'.b) (bd_mul h'.a h.b)).mono (by omega)
  have b2 : Bd (n + m + 1) (B * C' - B' * C) := (bd_sub (bd_mul h.b h'.c) (bd_mul h'.b h.c)).mono (by omega)
  have b3 : Bd (n + m + 1) (A' * C - A * C') := (bd_sub (bd_mul h'.a h.c) (bd_mul h.a h'.c)).mono (by omega)
  unfold o_met
  rw [h.e, h'.e]
  simp only [oget_0, oget_1, oget_2, ob_some]
  rw [omul_bd h.a h'.b (by omega), ob_some, omul_bd h'.a h.b (by omega), ob_some, decide_eq_false hlow, cond_false, omul_bd h.b h'.c (by omega), ob_some, omul_bd h'.b h.c (by omega), ob_some, omul_bd h'.a h.c (by omega), ob_some, omul_bd h.a h'.c (by omega), ob_some,
    ← fr_int, ← fr_int, ← fr_int, div_ok (szi b2) (szi b1) hl (by omega), ob_some, div_ok (szi b3) (szi b1) hl (by omega), ob_some]
/-- the mirror image's first and second number -/
def mrx (A B C : Int) (x y : Rat) : Rat := x + (((A : Rat) * x + (B : Rat) * y + (C : Rat)) * (((-2 : Int) : Rat) / ((A * A + B * B : Int) : Rat))) * (A : Rat)
def mry (A B C : Int) (x y : Rat) : Rat := y + (((A : Rat) * x + (B : Rat) * y + (C : Rat)) * (((-2 : Int) : Rat) / ((A * A + B * B : Int) : Rat))) * (B : Rat)
theorem sq_nn (A : Int) : 0 ≤ A * A := by rw [← Int.natAbs_mul_self' A]; exact Int.mul_nonneg (by omega) (by omega)
theorem sq_p {A : Int} (h : A ≠ 0) : 0 < A * A := by rw [← Int.natAbs_mul_self' A]; exact Int.mul_pos (by omega) (by omega)
theorem sq_pos (h : ¬ (A = 0 ∧ B = 0)) : 0 < A * A + B * B := by
  have a := sq_nn A
  have b := sq_nn B
  by_cases hA : A = 0
  · have hB : B ≠ 0 := fun e => h ⟨hA, e⟩
    have := sq_p hB
    omega
  · have := sq_p hA
    omega
theorem sqR (h : ¬ (A = 0 ∧ B = 0)) : ((A : Rat) * (A : Rat) + (B : Rat) * (B : Rat)) ≠ 0 := by
  intro e
  rw [← Rat.intCast_mul, ← Rat.intCast_mul, ← Rat.intCast_add] at e
  have := cast_inj (b := 0) e
  have := sq_pos h
  omega
theorem sz_mrx (h : Ld l A B C n) (hx : Sz k x) (hy : Sz k y) : Sz (2 * n + 2 * k + 4) (mrx A B C x y) ∧ Sz (2 * n + 2 * k + 4) (mry A B C x y) := by
  have hD := sq_pos h.ne
  have hR := sqR h.ne
  have px := den_pos x
  have py := den_pos y
  have q1 : Bd (2 * n + 2 * k + 4) ((x.den : Int) * (y.den : Int) * (A * A + B * B)) := (bd_mul (bd_mul hx.den hy.den) (bd_add (bd_mul h.a h.a) (bd_mul h.b h.b))).mono (by omega)
  have q0 : (x.den : Int) * (y.den : Int) * (A * A + B * B) ≠ 0 := Int.ne_of_gt (Int.mul_pos (Int.mul_pos (by omega) (by omega)) hD)
  have e1 := eq_nd x
  have e2 := eq_nd y
  have d1 := den_ne x
  have d2 := den_ne y
  constructor
  · refine sz_of (p := x.num * (y.den : Int) * (B * B - A * A) - A * ((2 * B) * (y.num * (x.den : Int)) + (2 * C) * ((x.den : Int) * (y.den : Int)))) q0 ?_ ?_ q1
    · simp only [Rat.intCast_mul, Rat.intCast_add, Rat.intCast_sub]
      unfold mrx
      simp only [Rat.intCast_mul, Rat.intCast_add]
      generalize (x.num : Rat) = xn at *
      generalize ((x.den : Int) : Rat) = xd at *
      generalize (y.num : Rat) = yn at *
      generalize ((y.den : Int) : Rat) = yd at *
      subst e1; subst e2
      have t2 : ((-2 : Int) : Rat) = -2 := rfl
      have t3 : ((2 : Int) : Rat) = 2 := rfl
      rw [t2, t3]
      generalize (A : Rat) = a at *
      generalize (B : Rat) = b at *
      generalize (C : Rat) = c at *
      grind
    · have t1 := bd_mul (bd_mul hx.num hy.den) (bd_sub (bd_mul h.b h.b) (bd_mul h.a h.a))
      have c1 : Bd (n + 1) (2 * B) := by unfold Bd; have := h.b; unfold Bd at this; rw [Nat.pow_succ]; omega
      have c2 : Bd (n + 1) (2 * C) := by unfold Bd; have := h.c; unfold Bd at this; rw [Nat.pow_succ]; omega
      have t2 := bd_mul h.a (bd_add (bd_mul c1 (bd_mul hy.num hx.den)) (bd_mul c2 (bd_mul hx.den hy.den)))
      exact (bd_sub t1 t2).mono (by omega)
  · refine sz_of (p := y.num * (x.den : Int) * (A * A - B * B) - B * ((2 * A) * (x.num * (y.den : Int)) + (2 * C) * ((x.den : Int) * (y.den : Int)))) q0 ?_ ?_ q1
    · simp only [Rat.intCast_mul, Rat.intCast_add, Rat.intCast_sub]
      unfold mry
      simp only [Rat.intCast_mul, Rat.intCast_add]
      generalize (x.num : Rat) = xn at *
      generalize ((x.den : Int) : Rat) = xd at *
      generalize (y.num : Rat) = yn at *
      generalize ((y.den : Int) : Rat) = yd at *
      subst e1; subst e2
      have t2 : ((-2 : Int) : Rat) = -2 := rfl
      have t3 : ((2 : Int) : Rat) = 2 := rfl
      rw [t2, t3]
      generalize (A : Rat) = a at *
      generalize (B : Rat) = b at *
      generalize (C : Rat) = c at *
      grind
    · have t1 := bd_mul (bd_mul hy.num hx.den) (bd_sub (bd_mul h.a h.a) (bd_mul h.b h.b))
      have c1 : Bd (n + 1) (2 * A) := by unfold Bd; have := h.a; unfold Bd at this; rw [Nat.pow_succ]; omega
      have c2 : Bd (n + 1) (2 * C) := by unfold Bd; have := h.c; unfold Bd at this; rw [Nat.pow_succ]; omega
      have t2 := bd_mul h.b (bd_add (bd_mul c1 (bd_mul hx.num hy.den)) (bd_mul c2 (bd_mul hx.den hy.den)))
      exact (bd_sub t1 t2).mono (by omega)
theorem mirrored_ok (h : Ld l A B C n) (hx : Sz k x) (hy : Sz k y) (hk : 3 * n + 3 * k + 50 ≤ 3900) : o_mirrored l (plc x y) = some (plc (mrx A B C x y) (mry A B C x y)) := by
  have hR := sqR h.ne
  obtain ⟨l', hl1, _, hl2, hl3⟩ := linethrough_ok (A := B) (B := -A) (n := n) h.b (bd_neg h.a) (by have := h.ne; omega) hx hy (by omega)
  have hne : ¬ ((B : Rat) = 0 ∧ ((-A : Int) : Rat) = 0) := fun z => h.ne ⟨by have := cast_inj (b := 0) z.2; omega, cast_inj (b := 0) z.1⟩
  obtain ⟨A', B', C', t, hL, ht, e1, e2, e3⟩ := hl2.ld hl3 hne
  have n2 : ((-A : Int) : Rat) = -(A : Rat) := Rat.intCast_neg A
  rw [n2] at e2 e3
  have elow : ((A * B' - A' * B : Int) : Rat) = -t * ((A : Rat) * (A : Rat) + (B : Rat) * (B : Rat)) := by
    rw [Rat.intCast_sub, Rat.intCast_mul, Rat.intCast_mul, e1, e2]; grind
  have hlowR : ((A * B' - A' * B : Int) : Rat) ≠ 0 := by rw [elow]; grind
  have hlow : A * B' - A' * B ≠ 0 := fun e => hlowR (by rw [e]; rfl)
  have hmet := met_ok h hL hlow (by omega)
  have b1 : Bd (n + (n + 2 * k + 3) + 1) (A * B' - A' * B) := (bd_sub (bd_mul h.a hL.b) (bd_mul hL.a h.b)).mono (by omega)
  have b2 : Bd (n + (n + 2 * k + 3) + 1) (B * C' - B' * C) := (bd_sub (bd_mul h.b hL.c) (bd_mul hL.b h.c)).mono (by omega)
  have b3 : Bd (n + (n + 2 * k + 3) + 1) (A' * C - A * C') := (bd_sub (bd_mul hL.a h.c) (bd_mul h.a hL.c)).mono (by omega)
  have sx := sz_of (n := n + (n + 2 * k + 3) + 1) hlow rfl b2 b1
  have sy := sz_of (n := n + (n + 2 * k + 3) + 1) hlow rfl b3 b1
  have s2x := sz_mul sz2 sx
  have s2y := sz_mul sz2 sy
  have hfoot : o_foot l (plc x y) = some (some (plc (((B * C' - B' * C : Int) : Rat) / ((A * B' - A' * B : Int) : Rat)) (((A' * C - A * C' : Int) : Rat) / ((A * B' - A' * B : Int) : Rat)))) := by
    unfold o_foot
    rw [upright_eq h, hl1, ob_some, hmet, ob_some]
  unfold o_mirrored
  rw [hfoot, ob_some, ob_some, fr2, mul_ok sz2 sx (by omega), ob_some, sub_ok s2x hx (by omega), ob_some, ob_some, mul_ok sz2 sy (by omega), ob_some, sub_ok s2y hy (by omega), ob_some]
  have t2 : ((-2 : Int) : Rat) = -2 := rfl
  have ex : 2 * (((B * C' - B' * C : Int) : Rat) / ((A * B' - A' * B : Int) : Rat)) - x = mrx A B C x y := by
    rw [elow, Rat.intCast_sub, Rat.intCast_mul, Rat.intCast_mul, e2, e3]
    unfold mrx
    rw [t2, Rat.intCast_add, Rat.intCast_mul, Rat.intCast_mul]
    generalize (A : Rat) = a at *
    generalize (B : Rat) = b at *
    generalize (C : Rat) = c at *
    grind
  have ey : 2 * (((A' * C - A * C' : Int) : Rat) / ((A * B' - A' * B : Int) : Rat)) - y = mry A B C x y := by
    rw [elow, Rat.intCast_sub, Rat.intCast_mul, Rat.intCast_mul, e1, e3]
    unfold mry
    rw [t2, Rat.intCast_add, Rat.intCast_mul, Rat.intCast_mul]
    generalize (A : Rat) = a at *
    generalize (B : Rat) = b at *
    generalize (C : Rat) = c at *
    grind
  rw [ex, ey]
theorem lmirrored_ok (h : Ld l A B C n) (hx : Sz k x) (hy : Sz k y) (hk : 3 * n + 3 * k + 50 ≤ 3900) : o__law_mirrored l (plc x y) = some (plc (mrx A B C x y) (mry A B C x y)) := by
  have hD := sq_pos h.ne
  have sa := szi h.a
  have sb := szi h.b
  have sc := szi h.c
  have p1 := sz_mul sa hx
  have p2 := sz_mul sb hy
  have p3 := sz_add p1 p2
  have p4 := sz_add p3 sc
  have bD : Bd (2 * n + 2) (A * A + B * B) := (bd_add (bd_mul h.a h.a) (bd_mul h.b h.b)).mono (by omega)
  have b2 : Bd (2 * n + 2) (-2 : Int) := (show Bd 2 (-2 : Int) by unfold Bd; decide).mono (by omega)
  have sq : Sz (2 * n + 2) (((-2 : Int) : Rat) / ((A * A + B * B : Int) : Rat)) := sz_of (Int.ne_of_gt hD) rfl b2 bD
  have p5 := sz_mul p4 sq
  have p6 := sz_mul p5 sa
  have p7 := sz_mul p5 sb
  unfold o__law_mirrored
  rw [h.e]
  simp only [oget_0, oget_1, oget_2, ob_some]
  rw [← fr_int A, ← fr_int B, ← fr_int C, product_ok sa hx (by omega), ob_some, product_ok sb hy (by omega), ob_some, plus_ok p1 p2 (by omega), ob_some, plus_ok p3 sc (by omega), ob_some, omul_bd h.a h.a (by omega), ob_some, omul_bd h.b h.b (by omega), ob_some,
    product_raw p4 (Int.ne_of_gt hD) b2 bD (by omega), ob_some, product_ok p5 sa (by omega), ob_some, plus_ok hx p6 (by omega), ob_some, product_ok p5 sb (by omega), ob_some, plus_ok hy p7 (by omega), ob_some]
  rfl
end
end Zz.Rt
/-! ZRt5: folds. -/
namespace Zz.Rt
open PySem
section
variable {x y x1 y1 x2 y2 X1 Y1 X2 Y2 : Rat} {k n m : Nat} {A B C : Int} {l f : List Int}
theorem szh : Sz 2 (1 / 2 : Rat) := sz_of (p := 1) (q := 2) (by decide) (by decide +kernel) (by decide) (by decide)
theorem middle_ok (h1 : Sz k x1) (h2 : Sz k y1) (h3 : Sz k x2) (h4 : Sz k y2) (hk : 2 * k + 3 ≤ 8000) : o_middle (plc x1 y1) (plc x2 y2) = some (plc ((x1 + x2) / 2) ((y1 + y2) / 2)) ∧ Sz (2 * k + 3) ((x1 + x2) / 2) ∧ Sz (2 * k + 3) ((y1 + y2) / 2) := by
  have sx := sz_add h1 h3
  have sy := sz_add h2 h4
  have two : (2 : Rat) ≠ 0 := by decide
  refine ⟨?_, ?_, ?_⟩
  · unfold o_middle
    rw [add_ok h1 h3 (by omega), ob_some, fr2, div_ok sx sz2 two (by omega), ob_some, add_ok h2 h4 (by omega), ob_some, div_ok sy sz2 two (by omega), ob_some]
  · have e : (x1 + x2) / 2 = (x1 + x2) * (1 / 2) := by grind
    rw [e]; exact (sz_mul sx szh).mono (by omega)
  · have e : (y1 + y2) / 2 = (y1 + y2) * (1 / 2) := by grind
    rw [e]; exact (sz_mul sy szh).mono (by omega)
/-- what a line is that is told to be level with u, v and to go through a place -/
structure Thr (l : List Int) (n : Nat) (a b c : Rat) : Prop where
  m : Nm l a b c
  z : ∀ A, A ∈ l → Bd n A
  ne : ¬ (a = 0 ∧ b = 0)
theorem foldonto_ok (h1 : Sz k x1) (h2 : Sz k y1) (h3 : Sz k x2) (h4 : Sz k y2) (hne : ¬ (x1 = x2 ∧ y1 = y2)) (hk : 30 * k + 50 ≤ 8000) :
    ∃ f, o_fold_onto (plc x1 y1) (plc x2 y2) = some f ∧ Thr f (12 * k + 12) (x2 - x1) (y2 - y1) (0 - ((x2 - x1) * ((x1 + x2) / 2) + (y2 - y1) * ((y1 + y2) / 2))) := by
  obtain ⟨l, hl1, _, hl2, hl3⟩ := joined_ok h1 h2 h3 h4 hne (by omega)
  obtain ⟨A, B, C, t, hL, ht, e1, e2, e3⟩ := hl2.ld hl3 (fun z => hne ⟨by grind, by grind⟩)
  obtain ⟨hm, sx, sy⟩ := middle_ok h1 h2 h3 h4 (by omega)
  obtain ⟨f, hf1, _, hf2, hf3⟩ := linethrough_ok (A := B) (B := -A) hL.b (bd_neg hL.a) (by have := hL.ne; omega) sx sy (by omega)
  refine ⟨f, ?_, ?_, fun A hA => (hf3 A hA).mono (by omega), fun z => hne ⟨by grind, by grind⟩⟩
  · unfold o_fold_onto
    rw [hl1, ob_some, hm, ob_some, upright_eq hL, hf1, ob_some]
  · have n2 : ((-A : Int) : Rat) = -(A : Rat) := Rat.intCast_neg A
    rw [n2, e1, e2] at hf2
    have := hf2.scale (s := 1 / t) (by grind)
    have q1 : 1 / t * (t * (x2 - x1)) = x2 - x1 := by grind
    have q2 : 1 / t * -(t * (y1 - y2)) = y2 - y1 := by grind
    have q3 : 1 / t * (0 - (t * (x2 - x1) * ((x1 + x2) / 2) + -(t * (y1 - y2)) * ((y1 + y2) / 2))) = 0 - ((x2 - x1) * ((x1 + x2) / 2) + (y2 - y1) * ((y1 + y2) / 2)) := by grind
    rw [q1, q2, q3] at this
    exact this
/-- the law's own line with such numbers is that one -/
theorem lline_eq {a b c : Rat} {na da nb db nc dc : Nat} (h : Nm l a b c) (ha : Sd na da a) (hb : Sd nb db b) (hc : Sd nc dc c) (h0 : ¬ (a = 0 ∧ b = 0)) (hN : na + nb + nc + da + db + dc ≤ 8990) : o__law_line (fr a) (fr b) (fr c) = some l := by
  obtain ⟨l', _, h2, h3, _⟩ := told_ok (N := 8999) ha hb hc (fun z => h0 ⟨z.1, z.2.1⟩) (by omega) (by omega) (by omega) (by omega) (by omega)
  rw [h2, h3.uniq h]
theorem Sz.sd {n : Nat} {x : Rat} (h : Sz n x) : Sd n n x := ⟨h.num, h.2⟩
/-- the fold of two places leads one to the other -/
theorem mr_swap {t : Rat} (ht : t ≠ 0) (hne : ¬ (x1 = x2 ∧ y1 = y2)) (h0 : ¬ (A = 0 ∧ B = 0)) (e1 : (A : Rat) = t * (x2 - x1)) (e2 : (B : Rat) = t * (y2 - y1)) (e3 : (C : Rat) = t * (0 - ((x2 - x1) * ((x1 + x2) / 2) + (y2 - y1) * ((y1 + y2) / 2)))) :
    mrx A B C x1 y1 = x2 ∧ mry A B C x1 y1 = y2 ∧ mrx A B C x2 y2 = x1 ∧ mry A B C x2 y2 = y1 := by
  have hR := sqR h0
  have t2 : ((-2 : Int) : Rat) = -2 := rfl
  unfold mrx mry
  rw [t2, Rat.intCast_add, Rat.intCast_mul, Rat.intCast_mul]
  generalize (A : Rat) = a at *
  generalize (B : Rat) = b at *
  generalize (C : Rat) = c at *
  subst e1; subst e2; subst e3
  refine ⟨?_, ?_, ?_, ?_⟩ <;> grind
theorem mr_inj (h0 : ¬ (A = 0 ∧ B = 0)) (h1 : mrx A B C X1 Y1 = mrx A B C X2 Y2) (h2 : mry A B C X1 Y1 = mry A B C X2 Y2) : X1 = X2 ∧ Y1 = Y2 := by
  have hR := sqR h0
  have t2 : ((-2 : Int) : Rat) = -2 := rfl
  unfold mrx at h1
  unfold mry at h2
  rw [t2, Rat.intCast_add, Rat.intCast_mul, Rat.intCast_mul] at h1 h2
  generalize (A : Rat) = a at *
  generalize (B : Rat) = b at *
  generalize (C : Rat) = c at *
  constructor <;> grind
/-- the line through two places of a line is that line -/
theorem through_eq (h : Nm l X1 Y1 x) (hX : ¬ (X1 = 0 ∧ Y1 = 0)) (o1 : X1 * x1 + Y1 * y1 + x = 0) (o2 : X1 * x2 + Y1 * y2 + x = 0) (hne : ¬ (x1 = x2 ∧ y1 = y2)) (hf : Nm f (y1 - y2) (x2 - x1) (0 - ((y1 - y2) * x1 + (x2 - x1) * y1))) : f = l := by
  by_cases hB : Y1 = 0
  · have hA : X1 ≠ 0 := fun z => hX ⟨z, hB⟩
    have hx : x1 = x2 := by grind
    exact (h.uniq2 (s := (y1 - y2) / X1) hf (by grind) (by grind) (by grind) (by grind)).symm
  · have hx : x1 ≠ x2 := fun z => hne ⟨z, by grind⟩
    exact (h.uniq2 (s := (x2 - x1) / Y1) hf (by grind) (by grind) (by grind) (by grind)).symm
/-- two places of a line -/
theorem two_ok (h : Ld l A B C n) (hn : n + 1 ≤ 8999) : ∃ x1 y1 x2 y2, o_two_on l = some (plc x1 y1, plc x2 y2) ∧ Sz (n + 2) x1 ∧ Sz (n + 2) y1 ∧ Sz (n + 2) x2 ∧ Sz (n + 2) y2 ∧ ¬ (x1 = x2 ∧ y1 = y2) ∧ (A : Rat) * x1 + (B : Rat) * y1 + (C : Rat) = 0 ∧ (A : Rat) * x2 + (B : Rat) * y2 + (C : Rat) = 0 := by
  unfold o_two_on
  have ho : o3 l = some (A, B, C) := by rw [h.e]; rfl
  have big : ∀ z : Int, Bd n z → z.natAbs < 2 ^ 8999 := fun z hz => hz.mono (show n ≤ 8999 by omega)
  rw [ho, ob_some]
  by_cases hB : B = 0
  · have hA : A ≠ 0 := fun z => h.ne ⟨z, hB⟩
    have hAR : (A : Rat) ≠ 0 := fun e => hA (cast_inj (b := 0) e)
    have s := sz_of (n := n + 2) hA rfl ((bd_neg h.c).mono (by omega)) (h.a.mono (by omega))
    refine ⟨((-C : Int) : Rat) / (A : Rat), 0, ((-C : Int) : Rat) / (A : Rat), 1, ?_, s, sz0.mono (by omega), s, sz1.mono (by omega), fun z => by have := z.2; revert this; decide, ?_, ?_⟩
    · rw [decide_eq_true hB, cond_true, lowest_ok hA (big _ h.a), ob_some, ob_some]; rfl
    · have hb : (B : Rat) = 0 := by rw [hB]; rfl
      rw [hb, Rat.intCast_neg]; grind
    · have hb : (B : Rat) = 0 := by rw [hB]; rfl
      rw [hb, Rat.intCast_neg]; grind
  · have hBR : (B : Rat) ≠ 0 := fun e => hB (cast_inj (b := 0) e)
    have s1 := sz_of (n := n + 2) hB rfl ((bd_neg h.c).mono (by omega)) (h.b.mono (by omega))
    have s2 := sz_of (n := n + 2) hB rfl ((bd_sub (bd_neg h.c) h.a).mono (by omega)) (h.b.mono (by omega))
    refine ⟨0, ((-C : Int) : Rat) / (B : Rat), 1, ((-C - A : Int) : Rat) / (B : Rat), ?_, sz0.mono (by omega), s1, sz1.mono (by omega), s2, fun z => by have := z.1; revert this; decide, ?_, ?_⟩
    · rw [decide_eq_false hB, cond_false, lowest_ok hB (big _ h.b), ob_some, lowest_ok hB (big _ h.b), ob_some]; rfl
    · rw [Rat.intCast_neg]; grind
    · rw [Rat.intCast_sub, Rat.intCast_neg]; grind
/-- a line's image -/
theorem imageline_ok {F1 F2 F3 : Int} (hf : Ld f F1 F2 F3 n) (hl : Ld l A B C m) (hk : 3 * n + 3 * m + 70 ≤ 3900) (hk2 : 16 * n + 16 * m + 99 ≤ 8990) : ∃ x1 y1 x2 y2 g, o_two_on l = some (plc x1 y1, plc x2 y2) ∧ Sz (m + 2) x1 ∧ Sz (m + 2) y1 ∧ Sz (m + 2) x2 ∧ Sz (m + 2) y2 ∧ ¬ (x1 = x2 ∧ y1 = y2) ∧ (A : Rat) * x1 + (B : Rat) * y1 + (C : Rat) = 0 ∧ (A : Rat) * x2 + (B : Rat) * y2 + (C : Rat) = 0 ∧
    o_image_line f l = some g ∧ o__law_through (plc (mrx F1 F2 F3 x1 y1) (mry F1 F2 F3 x1 y1)) (plc (mrx F1 F2 F3 x2 y2) (mry F1 F2 F3 x2 y2)) = some g ∧
    ¬ (mrx F1 F2 F3 x1 y1 = mrx F1 F2 F3 x2 y2 ∧ mry F1 F2 F3 x1 y1 = mry F1 F2 F3 x2 y2) ∧
    Nm g (mry F1 F2 F3 x1 y1 - mry F1 F2 F3 x2 y2) (mrx F1 F2 F3 x2 y2 - mrx F1 F2 F3 x1 y1) (0 - ((mry F1 F2 F3 x1 y1 - mry F1 F2 F3 x2 y2) * mrx F1 F2 F3 x1 y1 + (mrx F1 F2 F3 x2 y2 - mrx F1 F2 F3 x1 y1) * mry F1 F2 F3 x1 y1)) ∧ ∀ A, A ∈ g → Bd (16 * n + 16 * m + 99) A := by
  obtain ⟨x1, y1, x2, y2, h0, s1, s2, s3, s4, hne, o1, o2⟩ := two_ok hl (by omega)
  have hne2 : ¬ (mrx F1 F2 F3 x1 y1 = mrx F1 F2 F3 x2 y2 ∧ mry F1 F2 F3 x1 y1 = mry F1 F2 F3 x2 y2) := fun z => hne (mr_inj hf.ne z.1 z.2)
  obtain ⟨sa, sb⟩ := sz_mrx hf s1 s2
  obtain ⟨sc, sd⟩ := sz_mrx hf s3 s4
  obtain ⟨g, g1, g2, g3, g4⟩ := joined_ok sa sb sc sd hne2 (by omega)
  refine ⟨x1, y1, x2, y2, g, h0, s1, s2, s3, s4, hne, o1, o2, ?_, g2, hne2, g3, fun A hA => (g4 A hA).mono (by omega)⟩
  unfold o_image_line
  rw [h0, ob_some, mirrored_ok hf s1 s2 (by omega), ob_some, mirrored_ok hf s3 s4 (by omega), ob_some, g1, ob_some]
/-- the worth of a place -/
theorem worth_ok (h : Ld l A B C n) (hx : Sz k x) (hy : Sz k y) (hk : 3 * n + 3 * k + 50 ≤ 8000) : o_worth_at l (plc x y) = some (fr ((A : Rat) * x + (B : Rat) * y + (C : Rat))) := by
  have sa := szi h.a
  have sb := szi h.b
  have sc := szi h.c
  have p1 := sz_mul sa hx
  have p2 := sz_mul sb hy
  have p0 := sz_add sz0 p1
  have p3 := sz_add p0 p2
  unfold o_worth_at o_total
  rw [h.e]
  simp only [oget_0, oget_1, oget_2, ob_some]
  rw [← fr_int A, ← fr_int B, ← fr_int C, mul_ok sa hx (by omega), ob_some, mul_ok sb hy (by omega), ob_some, fr0]
  simp only [forO]
  rw [add_ok sz0 p1 (by omega), ob_some, ob_some, add_ok p0 p2 (by omega), ob_some, ob_some, add_ok p3 sc (by omega), ob_some, ob_some, ob_some, ob_some]
  congr 2
  grind
theorem ison_ok (h : Ld l A B C n) (hx : Sz k x) (hy : Sz k y) (hk : 3 * n + 3 * k + 50 ≤ 8000) : o_is_on l (plc x y) = some (decide ((A : Rat) * x + (B : Rat) * y + (C : Rat) = 0)) := by
  unfold o_is_on
  rw [worth_ok h hx hy hk, ob_some, fr0]
  congr 1
  simp only [fr_inj]
theorem leads_ok {F1 F2 F3 : Int} (hf : Ld f F1 F2 F3 n) (h : Ld l A B C m) (hx : Sz k x) (hy : Sz k y) (hk : 3 * n + 3 * k + 50 ≤ 3900) (hk2 : 6 * n + 6 * k + 3 * m + 70 ≤ 8000) : o_leads_onto f (plc x y) l = some (decide ((A : Rat) * mrx F1 F2 F3 x y + (B : Rat) * mry F1 F2 F3 x y + (C : Rat) = 0)) := by
  obtain ⟨sa, sb⟩ := sz_mrx hf hx hy
  unfold o_leads_onto
  rw [mirrored_ok hf hx hy hk, ob_some, ison_ok h sa sb (by omega), ob_some]
/-- the law's own worth -/
theorem lworth_eq (h : Ld l A B C n) (hx : Sz k x) (hy : Sz k y) (hk : 3 * n + 3 * k + 50 ≤ 8000) {β : Type} (K : Int × Int → Option β) :
    (ob (oget l (0 : Int)) fun g76 => ob (o__law_product (g76, (1 : Int)) (fr x)) fun produc77 => ob (oget l (1 : Int)) fun g78 => ob (o__law_product (g78, (1 : Int)) (fr y)) fun produc79 => ob (o__law_plus produc77 produc79) fun plus80 => ob (oget l (2 : Int)) fun g81 => ob (o__law_plus plus80 (g81, (1 : Int))) K) = K (fr ((A : Rat) * x + (B : Rat) * y + (C : Rat))) := by
  have sa := szi h.a
  have sb := szi h.b
  have sc := szi h.c
  have p1 := sz_mul sa hx
  have p2 := sz_mul sb hy
  have p3 := sz_add p1 p2
  rw [h.e]
  simp only [oget_0, oget_1, oget_2, ob_some]
  rw [← fr_int A, ← fr_int B, ← fr_int C, product_ok sa hx (by omega), ob_some, product_ok sb hy (by omega), ob_some, plus_ok p1 p2 (by omega), ob_some, plus_ok p3 sc (by omega), ob_some]
theorem lworth_ok (h : Ld l A B C n) (hx : Sz k x) (hy : Sz k y) (hk : 3 * n + 3 * k + 50 ≤ 8000) {β : Type} {Q : β → Prop} {K : Int × Int → Option β} (q : Ok (K (fr ((A : Rat) * x + (B : Rat) * y + (C : Rat)))) Q) :
    Ok (ob (oget l (0 : Int)) fun g76 => ob (o__law_product (g76, (1 : Int)) (fr x)) fun produc77 => ob (oget l (1 : Int)) fun g78 => ob (o__law_product (g78, (1 : Int)) (fr y)) fun produc79 => ob (o__law_plus produc77 produc79) fun plus80 => ob (oget l (2 : Int)) fun g81 => ob (o__law_plus plus80 (g81, (1 : Int))) K) Q := by
  rw [lworth_eq h hx hy hk]; exact q
/-- an upright line leads a line to itself -/
theorem upr_on {U1 U2 U3 : Int} {t : Rat} (h0 : ¬ (U1 = 0 ∧ U2 = 0)) (e1 : (U1 : Rat) = t * (B : Rat)) (e2 : (U2 : Rat) = t * -(A : Rat)) (o : (A : Rat) * x + (B : Rat) * y + (C : Rat) = 0) : (A : Rat) * mrx U1 U2 U3 x y + (B : Rat) * mry U1 U2 U3 x y + (C : Rat) = 0 := by
  have hR := sqR h0
  have t2 : ((-2 : Int) : Rat) = -2 := rfl
  unfold mrx mry
  rw [t2, Rat.intCast_add, Rat.intCast_mul, Rat.intCast_mul]
  generalize (A : Rat) = a at *
  generalize (B : Rat) = b at *
  generalize (C : Rat) = c at *
  generalize (U1 : Rat) = u1 at *
  generalize (U2 : Rat) = u2 at *
  generalize (U3 : Rat) = u3 at *
  subst e1; subst e2
  grind
end
end Zz.Rt
/-! ZRt6: roots of polynomials that are fractions. -/
namespace Zz.Rt
open PySem
def o_divisors (n_ : Int) : Option (List Int) :=
  ob (orng2 (1 : Int) (n_ + (1 : Int))) fun rng1 =>
  ob (flO (fun x2 => ob (omod n_ x2) fun t3 => some (decide (t3 = (0 : Int)))) (fun x2 => some x2) rng1) fun l4 =>
  ob (olen l4) fun l5 =>
  some l5
def o_rising (rows_ : List (Int × Int)) : Option (List (Int × Int)) :=
  ob (some ([] : List (Int × Int))) fun told1 =>
  ob (whO (σ := (List (Int × Int) × List (Int × Int))) (fun s2 => some (!s2.1.isEmpty)) (fun s2 =>
    ob (oget s2.1 (0 : Int)) fun g6 =>
    ob (forO (σ := (Int × Int)) (fun s7 x10 =>
    ob (omul x10.1 s7.2) fun t11 =>
    ob (omul s7.1 x10.2) fun t12 =>
    ob (bif (decide (t11 < t12)) then (
    some x10) else (
    some s7)) fun j13 =>
    some j13) (cutT s2.1 (some (1 : Int)) none) g6) fun s8 =>
    ob (oapp s2.2 s8) fun told14 =>
    ob (orem s2.1 s8) fun left15 =>
    some (left15, told14)) WW (rows_, told1)) fun s3 =>
  some s3.2
def o_worth (row_ : List Int) (place_ : (Int × Int)) : Option (Int × Int) :=
  ob (some ((0 : Int), (1 : Int))) fun told1 =>
  ob (forO (σ := (Int × Int)) (fun s2 x5 =>
    ob (omul s2.1 place_.1) fun t6 =>
    ob (omul x5 s2.2) fun t7 =>
    ob (omul t7 place_.2) fun t8 =>
    ob (omul s2.2 place_.2) fun t9 =>
    ob (o_lowest (t6 + t8) t9) fun lowest10 =>
    some lowest10) row_.reverse told1) fun s3 =>
  some s3
def o_rational_roots (row_ : List Int) : Option (List (Int × Int)) :=
  ob (some ([] : List (Int × Int))) fun told1 =>
  ob (oget row_ (0 : Int)) fun g2 =>
  ob (bif (decide (g2 = (0 : Int))) then (
    ob (oapp told1 ((0 : Int), (1 : Int))) fun told4 =>
    ob (whO (σ := List Int) (fun s5 => ob (oget s5 (0 : Int)) fun g7 => some (decide (g7 = (0 : Int)))) (fun s5 =>
    ob (some (cutT s5 (some (1 : Int)) none)) fun numbers8 =>
    some numbers8) WW row_) fun s6 =>
    some (s6, told4)) else (
    some (row_, told1))) fun j3 =>
  ob (oget j3.1 (0 : Int)) fun g9 =>
  ob (o_divisors (absT g9)) fun diviso10 =>
  ob (forO (σ := List (Int × Int)) (fun s11 x17 =>
    ob (oget j3.1 (-(1 : Int))) fun g18 =>
    ob (o_divisors (absT g18)) fun diviso19 =>
    ob (forO (σ := List (Int × Int)) (fun s20 x25 =>
    ob (forO (σ := List (Int × Int)) (fun s26 x30 =>
    ob (omul x30 x17) fun t31 =>
    ob (o_lowest t31 x25) fun lowest32 =>
    ob (bif (!(memT lowest32 s26)) then (ob (o_worth j3.1 lowest32) fun worth33 => some (decide (worth33.1 = (0 : Int)))) else (some false)) fun c34 =>
    ob (bif c34 then (
    ob (oapp s26 lowest32) fun told36 =>
    some told36) else (
    some s26)) fun j35 =>
    some j35) ([(1 : Int), (-(1 : Int))]) s20) fun s27 =>
    some s27) diviso19 s11) fun s21 =>
    some s21) diviso10 j3.2) fun s12 =>
  ob (o_rising s12) fun rising37 =>
  some rising37
/-! ### loops, by what they are like -/
theorem forO_rel {α σ τ : Type} {f : σ → α → Option σ} {g : τ → α → τ} (R : σ → τ → Prop) : ∀ {xs : List α} {s : σ} {t : τ}, (∀ s t x, x ∈ xs → R s t → ∃ s', f s x = some s' ∧ R s' (g t x)) → R s t → ∃ s', forO f xs s = some s' ∧ R s' (xs.foldl g t)
  | [], s, t, _, h => ⟨s, rfl, h⟩
  | x :: xs, s, t, k, h => by
    obtain ⟨s1, h1, h2⟩ := k s t x List.mem_cons_self h
    obtain ⟨s2, h3, h4⟩ := forO_rel R (fun s t x hx => k s t x (List.mem_cons_of_mem _ hx)) h2
    exact ⟨s2, by unfold forO; rw [h1]; exact h3, h4⟩
theorem foldl_keep {α τ : Type} {g : τ → α → τ} (Q : τ → Prop) : ∀ {xs : List α} {t : τ}, (∀ t x, x ∈ xs → Q t → Q (g t x)) → Q t → Q (xs.foldl g t)
  | [], _, _, h => h
  | x :: xs, t, k, h => foldl_keep Q (xs := xs) (t := g t x) (fun t y hy => k t y (List.mem_cons_of_mem _ hy)) (k t x List.mem_cons_self h)
theorem foldl_get {α τ : Type} {g : τ → α → τ} (Q : τ → Prop) {x0 : α} : ∀ {xs : List α} {t : τ}, (∀ t x, x ∈ xs → Q t → Q (g t x)) → (∀ t, Q (g t x0)) → x0 ∈ xs → Q (xs.foldl g t)
  | x :: xs, t, k, k0, h => by
    rcases List.mem_cons.mp h with rfl | h
    · exact foldl_keep Q (xs := xs) (t := g t x0) (fun t y hy => k t y (List.mem_cons_of_mem _ hy)) (k0 t)
    · exact foldl_get Q (xs := xs) (t := g t x) (fun t y hy => k t y (List.mem_cons_of_mem _ hy)) k0 h
theorem forO_append {α σ : Type} {f : σ → α → Option σ} : ∀ {xs ys : List α} {s : σ}, forO f (xs ++ ys) s = ob (forO f xs s) fun s => forO f ys s
  | [], _, _ => rfl
  | x :: xs, ys, s => by
    show ob (f s x) (fun s1 => forO f (xs ++ ys) s1) = ob (ob (f s x) fun s1 => forO f xs s1) fun s => forO f ys s
    cases f s x with
    | none => rfl
    | some s1 => rw [ob_some, ob_some, forO_append]
/-! ### worths -/
def hor : List Int → Rat → Rat
  | [], _ => 0
  | a :: r, x => (a : Rat) + x * hor r x
theorem sz_hor {x : Rat} (hx : Sz 30 x) : ∀ {row : List Int}, (∀ a, a ∈ row → Bd 30 a) → Sz (62 * row.length + 1) (hor row x)
  | [], _ => sz0
  | a :: r, h => by
    have h1 := sz_hor hx (row := r) fun b hb => h b (List.mem_cons_of_mem _ hb)
    have h2 := szi (h a List.mem_cons_self)
    exact (sz_add h2 (sz_mul hx h1)).mono (by rw [List.length_cons]; omega)
theorem horstep {x v : Rat} {a : Int} {n : Nat} (hx : Sz 30 x) (ha : Bd 30 a) (hv : Sz n v) (hn : n ≤ 4000) :
    (ob (omul (fr v).1 (fr x).1) fun t6 => ob (omul a (fr v).2) fun t7 => ob (omul t7 (fr x).2) fun t8 => ob (omul (fr v).2 (fr x).2) fun t9 => ob (o_lowest (t6 + t8) t9) fun lowest10 => some lowest10) = some (fr (v * x + (a : Rat))) := by
  have px := den_pos x
  have pv := den_pos v
  simp only [fr]
  rw [omul_bd hv.num hx.num (by omega), ob_some, omul_bd ha hv.den (by omega), ob_some, omul_bd (bd_mul ha hv.den) hx.den (by omega), ob_some, omul_bd hv.den hx.den (by omega), ob_some,
    lowest_ok (Int.ne_of_gt (Int.mul_pos (by omega) (by omega))) ((bd_mul hv.den hx.den).mono (by omega)), ob_some]
  congr 2
  have e1 := eq_nd x
  have e2 := eq_nd v
  have d1 := den_ne x
  have d2 := den_ne v
  rw [Rat.intCast_add, Rat.intCast_mul, Rat.intCast_mul, Rat.intCast_mul, Rat.intCast_mul]
  conv => rhs; rw [e1, e2]
  grind
theorem worth_row {x : Rat} (hx : Sz 30 x) : ∀ {row : List Int}, (∀ a, a ∈ row → Bd 30 a) → row.length ≤ 30 → o_worth row (fr x) = some (fr (hor row x)) := by
  have key : ∀ {row : List Int}, (∀ a, a ∈ row → Bd 30 a) → row.length ≤ 30 → forO (σ := (Int × Int)) (fun s2 x5 =>
    ob (omul s2.1 (fr x).1) fun t6 =>
    ob (omul x5 s2.2) fun t7 =>
    ob (omul t7 (fr x).2) fun t8 =>
    ob (omul s2.2 (fr x).2) fun t9 =>
    ob (o_lowest (t6 + t8) t9) fun lowest10 =>
    some lowest10) row.reverse ((0 : Int), (1 : Int)) = some (fr (hor row x)) := by
    intro row
    induction row with
    | nil => intro _ _; rfl
    | cons a r ih =>
      intro h hl
      rw [List.length_cons] at hl
      have h1 := ih (fun b hb => h b (List.mem_cons_of_mem _ hb)) (by omega)
      rw [List.reverse_cons, forO_append, h1, ob_some]
      have hs := sz_hor hx (row := r) fun b hb => h b (List.mem_cons_of_mem _ hb)
      unfold forO
      rw [horstep hx (h a List.mem_cons_self) hs (by omega), ob_some, show hor r x * x + (a : Rat) = hor (a :: r) x by rw [hor]; grind]
      rfl
  intro row h hl
  unfold o_worth
  rw [ob_some, key h hl, ob_some]
/-! ### divisors -/
theorem flO_id {c : Int → Option Bool} {p : Int → Bool} {xs : List Int} (k : ∀ x, x ∈ xs → c x = some (p x)) : flO c (fun x => some x) xs = some (xs.filter p) := by
  rw [flO_map (p := p) (g := fun x => x) k (fun x _ _ => rfl), List.map_id']
theorem divisors_ok {n : Nat} (h : n ≤ 1000000) : ∃ ds : List Int, o_divisors (n : Int) = some ds ∧ ∀ d, d ∈ ds ↔ 1 ≤ d ∧ d ≤ (n : Int) ∧ d ∣ (n : Int) := by
  unfold o_divisors
  have h1 : orng2 1 ((n : Int) + 1) = some (rng 1 n) := by
    unfold orng2
    have : (ok62 1 && ok62 ((n : Int) + 1) && lenOk ((n : Int) + 1 - 1).toNat) = true := by simp only [ok62, lenOk, Bool.and_eq_true, decide_eq_true_eq]; omega
    rw [if_pos this, show ((n : Int) + 1 - 1).toNat = n by omega]
  rw [h1, ob_some, flO_id (p := fun d => decide (modI (n : Int) d = 0)) fun d hd => by
    have := mem_rng.mp hd
    have hm : omod (n : Int) d = some (modI (n : Int) d) := if_pos (by simp; omega)
    rw [hm, ob_some], ob_some]
  have hl : ((rng 1 n).filter fun d => decide (modI (n : Int) d = 0)).length ≤ 1000000 := Nat.le_trans (List.length_filter_le _ _) (by rw [len_rng]; exact h)
  have ho : olen ((rng 1 n).filter fun d => decide (modI (n : Int) d = 0)) = some ((rng 1 n).filter fun d => decide (modI (n : Int) d = 0)) := if_pos (by simp only [lenOk, decide_eq_true_eq]; omega)
  rw [ho, ob_some]
  refine ⟨_, rfl, fun d => ?_⟩
  rw [List.mem_filter, mem_rng, decide_eq_true_eq]
  constructor
  · rintro ⟨⟨a, b⟩, c⟩
    refine ⟨a, by omega, ?_⟩
    unfold modI at c
    rw [if_pos (by omega)] at c
    exact Int.dvd_of_emod_eq_zero c
  · rintro ⟨a, b, c⟩
    refine ⟨⟨a, by omega⟩, ?_⟩
    unfold modI
    rw [if_pos (by omega)]
    exact Int.emod_eq_zero_of_dvd c
/-! ### ascending -/
theorem orem_ok {x : Rat} : ∀ {xs : List Rat}, x ∈ xs → orem (xs.map fr) (fr x) = some ((xs.erase x).map fr)
  | y :: ys, h => by
    by_cases e : y = x
    · subst e
      unfold orem
      rw [List.map_cons, List.findIdx?_cons]
      simp
    · have hy : x ∈ ys := by rcases List.mem_cons.mp h with h | h; exact absurd h.symm e; exact h
      have ih := orem_ok hy
      have hne : decide (fr y = fr x) = false := decide_eq_false fun z => e (fr_inj.mp z)
      have hb : (y == x) = false := beq_eq_false_iff_ne.mpr e
      unfold orem at ih ⊢
      rw [List.map_cons, List.findIdx?_cons, hne]
      rw [List.erase_cons, hb]
      cases hf : (ys.map fr).findIdx? (fun z => decide (z = fr x)) with
      | none => rw [hf] at ih; cases ih
      | some j =>
        rw [hf] at ih
        have ih := Option.some.inj ih
        simp only [Bool.false_eq_true, if_false, Option.map_some, List.eraseIdx_cons_succ, List.map_cons, ih]
theorem least_ok : ∀ {xs : List Rat} {s : Rat} , (∀ x, x ∈ xs → Sz 100 x) → Sz 100 s → ∃ m, forO (σ := (Int × Int)) (fun s7 x10 =>
    ob (omul x10.1 s7.2) fun t11 =>
    ob (omul s7.1 x10.2) fun t12 =>
    ob (bif (decide (t11 < t12)) then (
    some x10) else (
    some s7)) fun j13 =>
    some j13) (xs.map fr) (fr s) = some (fr m) ∧ (m = s ∨ m ∈ xs) ∧ m ≤ s ∧ ∀ x, x ∈ xs → m ≤ x
  | [], s, _, hs => ⟨s, rfl, .inl rfl, Rat.le_refl, fun x hx => by cases hx⟩
  | x :: xs, s, h, hs => by
    have hx := h x List.mem_cons_self
    have hlt : decide (x.num * (s.den : Int) < s.num * (x.den : Int)) = decide (x < s) := by
      rw [decide_eq_decide]; exact (Rat.lt_iff x s).symm
    have step : (ob (omul (fr x).1 (fr s).2) fun t11 => ob (omul (fr s).1 (fr x).2) fun t12 => ob (bif (decide (t11 < t12)) then (some (fr x)) else (some (fr s))) fun j13 => some j13) = some (fr (if x < s then x else s)) := by
      simp only [fr]
      rw [omul_bd hx.num hs.den (by omega), ob_some, omul_bd hs.num hx.den (by omega), ob_some, hlt]
      by_cases q : x < s
      · rw [decide_eq_true q, if_pos q]; rfl
      · rw [decide_eq_false q, if_neg q]; rfl
    have hm : Sz 100 (if x < s then x else s) := by split <;> assumption
    obtain ⟨m, h1, h2, h3, h4⟩ := least_ok (xs := xs) (s := if x < s then x else s) (fun y hy => h y (List.mem_cons_of_mem _ hy)) hm
    have hle1 : (if x < s then x else s) ≤ s := by
      split
      · rename_i q; exact Rat.le_of_lt q
      · exact Rat.le_refl
    have hle2 : (if x < s then x else s) ≤ x := by
      split
      · exact Rat.le_refl
      · rename_i q; exact Rat.not_lt.mp q
    refine ⟨m, ?_, ?_, Rat.le_trans h3 hle1, fun y hy => ?_⟩
    · rw [List.map_cons]
      unfold forO
      rw [step, ob_some]
      exact h1
    · rcases h2 with h2 | h2
      · rw [h2]
        split
        · exact .inr List.mem_cons_self
        · exact .inl rfl
      · exact .inr (List.mem_cons_of_mem _ h2)
    · rcases List.mem_cons.mp hy with rfl | hy
      · exact Rat.le_trans h3 hle2
      · exact h4 y hy
theorem cut_1 {α : Type} {l : List α} {x : α} : cutT (x :: l) (some 1) none = l := by
  unfold cutT cutIx
  simp
theorem rising_go : ∀ (n : Nat) (left told : List Rat), left.length < n → left.Nodup → (∀ x, x ∈ left → Sz 100 x) → told.Pairwise (· < ·) → (∀ a, a ∈ told → ∀ b, b ∈ left → a < b) → left.length + told.length ≤ 100000 →
    ∃ l : List Rat, whO (σ := (List (Int × Int) × List (Int × Int))) (fun s2 => some (!s2.1.isEmpty)) (fun s2 =>
    ob (oget s2.1 (0 : Int)) fun g6 =>
    ob (forO (σ := (Int × Int)) (fun s7 x10 =>
    ob (omul x10.1 s7.2) fun t11 =>
    ob (omul s7.1 x10.2) fun t12 =>
    ob (bif (decide (t11 < t12)) then (
    some x10) else (
    some s7)) fun j13 =>
    some j13) (cutT s2.1 (some (1 : Int)) none) g6) fun s8 =>
    ob (oapp s2.2 s8) fun told14 =>
    ob (orem s2.1 s8) fun left15 =>
    some (left15, told14)) n (left.map fr, told.map fr) = some ([], l.map fr) ∧ l.Pairwise (· < ·) ∧ ∀ x, x ∈ l ↔ x ∈ told ∨ x ∈ left
  | 0, _, _, h, _, _, _, _, _ => absurd h (Nat.not_lt_zero _)
  | n + 1, [], told, _, _, _, hp, _, _ => ⟨told, rfl, hp, fun x => by simp⟩
  | n + 1, y :: left, told, hn, hd, hs, hp, hlt, hlen => by
    obtain ⟨m, h1, h2, h3, h4⟩ := least_ok (xs := left) (s := y) (fun x hx => hs x (List.mem_cons_of_mem _ hx)) (hs y List.mem_cons_self)
    have hm : m ∈ y :: left := by rcases h2 with rfl | h2; exact List.mem_cons_self; exact List.mem_cons_of_mem _ h2
    have hmin : ∀ x, x ∈ y :: left → m ≤ x := fun x hx => by
      rcases List.mem_cons.mp hx with rfl | hx
      · exact h3
      · exact h4 x hx
    have hcut : cutT ((y :: left).map fr) (some (1 : Int)) none = left.map fr := by
      rw [List.map_cons, cut_1]
    simp only [List.length_cons] at hn hlen
    have hle : ((y :: left).erase m).length = left.length := by rw [List.length_erase_of_mem hm]; simp
    have hmem : ∀ x, x ∈ (y :: left).erase m ↔ x ≠ m ∧ x ∈ y :: left := fun x => hd.mem_erase_iff
    obtain ⟨l, g1, g2, g3⟩ := rising_go n ((y :: left).erase m) (told ++ [m]) (by omega) (hd.erase m) (fun x hx => hs x ((hmem x).mp hx).2)
      (by
        rw [List.pairwise_append]
        refine ⟨hp, List.pairwise_singleton _ _, fun a ha b hb => ?_⟩
        have : b = m := by simpa using hb
        subst this
        exact hlt a ha b hm)
      (fun a ha b hb => by
        obtain ⟨hb1, hb2⟩ := (hmem b).mp hb
        rcases List.mem_append.mp ha with ha | ha
        · exact hlt a ha b hb2
        · have : a = m := by simpa using ha
          subst this
          exact Rat.lt_of_le_of_ne (hmin b hb2) (fun e => hb1 e.symm))
      (by rw [hle]; simp; omega)
    refine ⟨l, ?_, g2, fun x => ?_⟩
    · unfold whO
      have e1 : (!((y :: left).map fr).isEmpty) = true := rfl
      rw [e1, ob_some, cond_true, hcut]
      have e2 : oget ((y :: left).map fr) (0 : Int) = some (fr y) := by rw [List.map_cons]; exact oget_0
      have e3 : oapp (told.map fr) (fr m) = some ((told ++ [m]).map fr) := by
        unfold oapp
        rw [if_pos (by rw [List.length_map, decide_eq_true_eq]; omega), List.map_append]; rfl
      rw [e2, ob_some, h1, ob_some, e3, ob_some, orem_ok hm, ob_some, ob_some]
      exact g1
    · rw [g3, List.mem_append, hmem]
      constructor
      · rintro ((h | h) | h)
        · exact .inl h
        · have : x = m := by simpa using h
          subst this; exact .inr hm
        · exact .inr h.2
      · rintro (h | h)
        · exact .inl (.inl h)
        · by_cases e : x = m
          · exact .inl (.inr (by simp [e]))
          · exact .inr ⟨e, h⟩
theorem rising_ok {xs : List Rat} (hd : xs.Nodup) (hs : ∀ x, x ∈ xs → Sz 100 x) (hl : xs.length ≤ 90000) : ∃ l : List Rat, o_rising (xs.map fr) = some (l.map fr) ∧ l.Pairwise (· < ·) ∧ ∀ x, x ∈ l ↔ x ∈ xs := by
  obtain ⟨l, h1, h2, h3⟩ := rising_go WW xs [] (by show xs.length < 100000; omega) hd hs List.Pairwise.nil (fun a ha => by cases ha) (by simp; omega)
  refine ⟨l, ?_, h2, fun x => by rw [h3]; simp⟩
  unfold o_rising
  rw [ob_some]
  exact ob_of h1 rfl
theorem rlt_trans {a b c : Rat} (h1 : a < b) (h2 : b < c) : a < c := by grind
/-- two ascending rows of the same numbers are one -/
theorem asc_uniq : ∀ {xs ys : List Rat}, xs.Pairwise (· < ·) → ys.Pairwise (· < ·) → (∀ x, x ∈ xs ↔ x ∈ ys) → xs = ys
  | [], [], _, _, _ => rfl
  | [], y :: ys, _, _, h => by have := (h y).mpr List.mem_cons_self; cases this
  | x :: xs, [], _, _, h => by have := (h x).mp List.mem_cons_self; cases this
  | x :: xs, y :: ys, hx, hy, h => by
    rw [List.pairwise_cons] at hx hy
    have e : x = y := by
      have h1 := (h x).mp List.mem_cons_self
      have h2 := (h y).mpr List.mem_cons_self
      rcases List.mem_cons.mp h1 with h1 | h1
      · exact h1
      · rcases List.mem_cons.mp h2 with h2 | h2
        · exact h2.symm
        · exact absurd (rlt_trans (hx.1 y h2) (hy.1 x h1)) Rat.lt_irrefl
    subst e
    congr 1
    refine asc_uniq hx.2 hy.2 fun z => ?_
    have hz := h z
    rw [List.mem_cons, List.mem_cons] at hz
    constructor
    · intro q
      rcases hz.mp (.inr q) with r | r
      · subst r; exact absurd (hx.1 z q) Rat.lt_irrefl
      · exact r
    · intro q
      rcases hz.mpr (.inr q) with r | r
      · subst r; exact absurd (hy.1 z q) Rat.lt_irrefl
      · exact r
/-! ### what a root divides -/
/-- the sum times the lower number's power -/
def Nh (p q : Int) : List Int → Int
  | [] => 0
  | a :: r => a * q ^ r.length + p * Nh p q r
theorem nh_hor {x : Rat} : ∀ {row : List Int}, (((x.den : Int) : Rat) * (Nh x.num (x.den : Int) row : Rat)) = ((((x.den : Int) ^ row.length : Int)) : Rat) * hor row x
  | [] => by simp [Nh, hor]
  | a :: r => by
    have ih := nh_hor (x := x) (row := r)
    have e1 := eq_nd x
    have d1 := den_ne x
    rw [Nh, hor, List.length_cons, Int.pow_succ]
    rw [Rat.intCast_add, Rat.intCast_mul, Rat.intCast_mul, Rat.intCast_mul]
    have e2 : ((x.den : Int) : Rat) * x = (x.num : Rat) := by
      conv => lhs; rhs; rw [e1]
      grind
    generalize ((((x.den : Int) ^ r.length : Int)) : Rat) = Q at *
    generalize (Nh x.num (x.den : Int) r : Rat) = N at *
    generalize hor r x = h at *
    generalize ((x.den : Int) : Rat) = d at *
    generalize (x.num : Rat) = n at *
    grind
theorem pow_cop {p q : Nat} (h : Nat.Coprime p q) (n : Nat) : Nat.Coprime p (q ^ n) := Nat.Coprime.pow_right n h
/-- the first -/
theorem root_first {x : Rat} {a : Int} {r : List Int} (h : hor (a :: r) x = 0) : x.num ∣ a := by
  have e := nh_hor (x := x) (row := a :: r)
  rw [h, Rat.mul_zero] at e
  have hN : Nh x.num (x.den : Int) (a :: r) = 0 := by
    rcases Rat.mul_eq_zero.mp e with z | z
    · exact absurd z (den_ne x)
    · exact cast_inj (b := 0) z
  rw [Nh] at hN
  have hd : x.num ∣ a * (x.den : Int) ^ r.length := ⟨-Nh x.num (x.den : Int) r, by rw [Int.mul_neg]; omega⟩
  have hd2 : x.num.natAbs ∣ a.natAbs * x.den ^ r.length := by
    have := Int.natAbs_dvd_natAbs.mpr hd
    rwa [Int.natAbs_mul, Int.natAbs_pow, Int.natAbs_natCast] at this
  exact Int.natAbs_dvd_natAbs.mp (Nat.Coprime.dvd_of_dvd_mul_right (pow_cop x.reduced _) hd2)
theorem nh_last {p q : Int} (a : Int) : ∀ r : List Int, ∃ k, Nh p q (r ++ [a]) = q * k + a * p ^ r.length
  | [] => ⟨0, by simp [Nh]⟩
  | b :: r => by
    obtain ⟨k, hk⟩ := nh_last (p := p) (q := q) a r
    refine ⟨b * q ^ r.length + p * k, ?_⟩
    rw [List.cons_append, Nh, hk, List.length_append, List.length_cons, List.length_cons, List.length_nil, Int.pow_succ, Int.pow_succ]
    grind
/-- the last -/
theorem root_last {x : Rat} {a : Int} {r : List Int} (h : hor (r ++ [a]) x = 0) : (x.den : Int) ∣ a := by
  have e := nh_hor (x := x) (row := r ++ [a])
  rw [h, Rat.mul_zero] at e
  have hN : Nh x.num (x.den : Int) (r ++ [a]) = 0 := by
    rcases Rat.mul_eq_zero.mp e with z | z
    · exact absurd z (den_ne x)
    · exact cast_inj (b := 0) z
  obtain ⟨k, hk⟩ := nh_last (p := x.num) (q := (x.den : Int)) a r
  rw [hN] at hk
  have hd : (x.den : Int) ∣ a * x.num ^ r.length := ⟨-k, by rw [Int.mul_neg]; omega⟩
  have hd2 : x.den ∣ a.natAbs * x.num.natAbs ^ r.length := by
    have := Int.natAbs_dvd_natAbs.mpr hd
    rwa [Int.natAbs_mul, Int.natAbs_pow, Int.natAbs_natCast] at this
  have := Nat.Coprime.dvd_of_dvd_mul_right (pow_cop (Nat.Coprime.symm x.reduced) _) hd2
  exact Int.natAbs_dvd_natAbs.mp (by simpa using this)
end Zz.Rt
/-! ZRt7: all roots that are fractions are found. -/
namespace Zz.Rt
open PySem
/-! ### there are not many roots -/
def horR : List Rat → Rat → Rat
  | [], _ => 0
  | a :: r, x => a + x * horR r x
theorem hor_R (x : Rat) : ∀ row : List Int, hor row x = horR (row.map fun a : Int => (a : Rat)) x
  | [] => rfl
  | a :: r => by rw [hor, hor_R x r]; rfl
def quo (c : Rat) : List Rat → List Rat
  | [] => []
  | [_] => []
  | _ :: b :: r => horR (b :: r) c :: quo c (b :: r)
theorem quo_len (c : Rat) : ∀ (r : List Rat) (a : Rat), (quo c (a :: r)).length = r.length
  | [], _ => rfl
  | b :: r, a => by rw [quo, List.length_cons, quo_len c r b, List.length_cons]
theorem quo_eq (c x : Rat) : ∀ (r : List Rat) (a : Rat), horR (a :: r) x - horR (a :: r) c = (x - c) * horR (quo c (a :: r)) x
  | [], a => by simp [quo, horR]; grind
  | b :: r, a => by
    have ih := quo_eq c x r b
    rw [quo]
    have e1 : horR (a :: b :: r) x = a + x * horR (b :: r) x := rfl
    have e2 : horR (a :: b :: r) c = a + c * horR (b :: r) c := rfl
    have e3 : horR (horR (b :: r) c :: quo c (b :: r)) x = horR (b :: r) c + x * horR (quo c (b :: r)) x := rfl
    rw [e1, e2, e3]
    generalize horR (b :: r) x = u at *
    generalize horR (b :: r) c = v at *
    generalize horR (quo c (b :: r)) x = w at *
    grind
theorem quo_last (c : Rat) : ∀ (r : List Rat) (a b : Rat), (quo c (a :: b :: r)).getLast? = (b :: r).getLast?
  | [], a, b => by
    show some (b + c * 0) = some b
    rw [Rat.mul_zero, Rat.add_zero]
  | d :: r, a, b => by
    have ih := quo_last c r b d
    rw [quo, quo] at *
    rw [List.getLast?_cons_cons, ih, List.getLast?_cons_cons]
theorem roots_le : ∀ (n : Nat) (row : List Rat) (L : Rat), row.length = n + 1 → row.getLast? = some L → L ≠ 0 → ∀ T : List Rat, T.Nodup → (∀ x, x ∈ T → horR row x = 0) → T.length ≤ n
  | 0, [a], L, _, hl, hL, T, _, hT => by
    cases T with
    | nil => exact Nat.le_refl _
    | cons x T =>
      have h1 := hT x List.mem_cons_self
      simp only [horR, List.getLast?_singleton, Option.some.injEq] at h1 hl
      subst hl
      exact absurd (by grind) hL
  | n + 1, a :: b :: r, L, h, hl, hL, T, hd, hT => by
    cases T with
    | nil => exact Nat.zero_le _
    | cons c T =>
      rw [List.nodup_cons] at hd
      have hc := hT c List.mem_cons_self
      have := roots_le n (quo c (a :: b :: r)) L (by rw [quo_len]; simp at h ⊢; omega) (by rw [quo_last]; rw [List.getLast?_cons_cons] at hl; exact hl) hL T hd.2 fun x hx => by
        have h1 := hT x (List.mem_cons_of_mem _ hx)
        have h2 := quo_eq c x (b :: r) a
        rw [h1, hc] at h2
        have hxc : x ≠ c := fun e => hd.1 (e ▸ hx)
        have h3 : (x - c) * horR (quo c (a :: b :: r)) x = 0 := by rw [← h2]; grind
        rcases Rat.mul_eq_zero.mp h3 with z | z
        · exact absurd (by grind) hxc
        · exact z
      rw [List.length_cons]; omega
  | 0, [], _, h, _, _, _, _, _ => by simp at h
  | n + 1, [], _, h, _, _, _, _, _ => by simp at h
  | n + 1, [_], _, h, _, _, _, _, _ => by simp at h
  | 0, _ :: _ :: _, _, h, _, _, _, _, _ => by simp at h
/-! ### without the first noughts -/
def strip : List Int → List Int
  | [] => []
  | a :: r => if a = 0 then strip r else a :: r
theorem strip_go : ∀ (n : Nat) (row : List Int), (∃ a, a ∈ row ∧ a ≠ 0) → row.length < n → whO (σ := List Int) (fun s5 => ob (oget s5 (0 : Int)) fun g7 => some (decide (g7 = (0 : Int)))) (fun s5 => ob (some (cutT s5 (some (1 : Int)) none)) fun numbers8 => some numbers8) n row = some (strip row)
  | 0, _, _, h => absurd h (Nat.not_lt_zero _)
  | n + 1, [], ⟨a, h, _⟩, _ => by cases h
  | n + 1, a :: r, ⟨b, hb, hb0⟩, h => by
    unfold whO
    rw [oget_0, ob_some, ob_some]
    by_cases e : a = 0
    · rw [decide_eq_true e, cond_true, ob_some, ob_some, cut_1, strip, if_pos e]
      refine strip_go n r ?_ (by simp at h; omega)
      rcases List.mem_cons.mp hb with rfl | hb
      · exact absurd e hb0
      · exact ⟨b, hb, hb0⟩
    · rw [decide_eq_false e, cond_false, strip, if_neg e]
theorem strip_is : ∀ (row : List Int) (L : Int), row.getLast? = some L → L ≠ 0 → ∃ s0 t, strip row = s0 :: t ∧ s0 ≠ 0 ∧ (strip row).getLast? = some L ∧ (∀ a, a ∈ strip row → a ∈ row) ∧ (strip row).length ≤ row.length ∧ ∀ x : Rat, x ≠ 0 → (hor row x = 0 ↔ hor (strip row) x = 0)
  | [], L, h, _ => by simp at h
  | a :: r, L, h, hL => by
    by_cases e : a = 0
    · have hr : r.getLast? = some L := by
        cases r with
        | nil => simp at h; exact absurd (h ▸ e) hL
        | cons b r => rw [List.getLast?_cons_cons] at h; exact h
      obtain ⟨s0, t, h1, h2, h3, h4, h5, h6⟩ := strip_is r L hr hL
      refine ⟨s0, t, by rw [strip, if_pos e]; exact h1, h2, by rw [strip, if_pos e]; exact h3, fun b hb => List.mem_cons_of_mem _ (h4 b (by rwa [strip, if_pos e] at hb)), by rw [strip, if_pos e, List.length_cons]; omega, fun x hx => ?_⟩
      rw [strip, if_pos e, ← h6 x hx, hor, e]
      have z : ((0 : Int) : Rat) = 0 := rfl
      rw [z, Rat.zero_add]
      exact ⟨fun q => by rcases Rat.mul_eq_zero.mp q with q | q; exact absurd q hx; exact q, fun q => by rw [q, Rat.mul_zero]⟩
    · exact ⟨a, r, by rw [strip, if_neg e], e, by rw [strip, if_neg e]; exact h, fun b hb => by rwa [strip, if_neg e] at hb, by rw [strip, if_neg e]; exact Nat.le_refl _, fun x _ => by rw [strip, if_neg e]⟩
theorem hor_zero (a : Int) (r : List Int) : hor (a :: r) 0 = (a : Rat) := by rw [hor, Rat.zero_mul, Rat.add_zero]
def push (S : List Int) (T : List Rat) (x : Rat) : List Rat := if x ∉ T ∧ hor S x = 0 then T ++ [x] else T
theorem memT_fr {x : Rat} {T : List Rat} : memT (fr x) (T.map fr) = decide (x ∈ T) := by
  rw [Bool.eq_iff_iff, memT_iff, decide_eq_true_eq, List.mem_map]
  exact ⟨fun ⟨y, h, e⟩ => by rw [fr_inj] at e; exact e ▸ h, fun h => ⟨x, h, rfl⟩⟩
def cand (sg a b : Int) : Rat := ((sg * a : Int) : Rat) / (b : Rat)
/-- found so far -/
structure Fnd (row S : List Int) (T : List Rat) : Prop where
  nd : T.Nodup
  r : ∀ x, x ∈ T → hor row x = 0
  z : ∀ x, x ∈ T → Sz 30 x
theorem last_map {row : List Int} {L : Int} (h : row.getLast? = some L) : (row.map fun a : Int => (a : Rat)).getLast? = some (L : Rat) := by rw [List.getLast?_map, h]; rfl
theorem Fnd.len {row S : List Int} {T : List Rat} {L : Int} (h : Fnd row S T) (hl : row.getLast? = some L) (hL : L ≠ 0) : T.length ≤ row.length := by
  cases hr : row with
  | nil => rw [hr] at hl; simp at hl
  | cons a r =>
    have := roots_le r.length (row.map fun a : Int => (a : Rat)) (L : Rat) (by rw [hr]; simp) (last_map hl) (fun e => hL (cast_inj (b := 0) e)) T h.nd fun x hx => by rw [← hor_R]; exact h.r x hx
    rw [List.length_cons]; omega
theorem Fnd.push {row S : List Int} {T : List Rat} {x : Rat} (h : Fnd row S T) (hx : x ≠ 0) (hS : hor row x = 0 ↔ hor S x = 0) (sx : Sz 30 x) : Fnd row S (push S T x) := by
  unfold Rt.push
  split
  · rename_i q
    refine ⟨?_, fun y hy => ?_, fun y hy => ?_⟩
    · rw [List.nodup_append]
      exact ⟨h.nd, by simp, fun a ha b hb => by have : b = x := by simpa using hb
                                                subst this; exact fun e => q.1 (e ▸ ha)⟩
    · rcases List.mem_append.mp hy with hy | hy
      · exact h.r y hy
      · have : y = x := by simpa using hy
        subst this; exact hS.mpr q.2
    · rcases List.mem_append.mp hy with hy | hy
      · exact h.z y hy
      · have : y = x := by simpa using hy
        subst this; exact sx
  · exact h
theorem push_sub {S : List Int} {T : List Rat} {x y : Rat} (h : y ∈ T) : y ∈ push S T x := by
  unfold push; split
  · exact List.mem_append_left _ h
  · exact h
theorem push_get {S : List Int} {T : List Rat} {x : Rat} (h : hor S x = 0) : x ∈ push S T x := by
  unfold push
  by_cases q : x ∈ T
  · rw [if_neg (fun z => z.1 q)]; exact q
  · rw [if_pos ⟨q, h⟩]; simp
theorem roots_ok {row : List Int} {L : Int} (hl : row.getLast? = some L) (hL : L ≠ 0) (hb : ∀ a, a ∈ row → a.natAbs ≤ 1000000) (hn : row.length ≤ 20) :
    ∃ l : List Rat, o_rational_roots row = some (l.map fr) ∧ l.Pairwise (· < ·) ∧ (∀ x, x ∈ l ↔ hor row x = 0) ∧ ∀ x, x ∈ l → Sz 30 x := by
  obtain ⟨s0, t, hS, hs0, hSl, hSm, hSn, hSr⟩ := strip_is row L hl hL
  have hLm : L ∈ strip row := List.mem_of_getLast? hSl
  obtain ⟨a0, r0, hrow⟩ : ∃ a0 r0, row = a0 :: r0 := by cases row with | nil => simp at hl | cons a r => exact ⟨a, r, rfl⟩
  have hBd : ∀ a, a ∈ strip row → Bd 30 a := fun a ha => by
    have := hb a (hSm a ha)
    unfold Bd
    exact Nat.lt_of_le_of_lt this (by decide)
  have bs0 := hb s0 (hSm s0 (by rw [hS]; exact List.mem_cons_self))
  have bL := hb L (hSm L hLm)
  obtain ⟨D1, d1, m1⟩ := divisors_ok bs0
  obtain ⟨D2, d2, m2⟩ := divisors_ok bL
  obtain ⟨T0, hT0⟩ : ∃ T0 : List Rat, T0 = if a0 = 0 then [0] else [] := ⟨_, rfl⟩
  have F0 : Fnd row (strip row) T0 := by
    rw [hT0]
    split
    · rename_i e
      have k : ∀ x : Rat, x ∈ [(0 : Rat)] → x = 0 := fun x hx => by simpa using hx
      exact ⟨by simp, fun x hx => (by rw [k x hx, hrow, hor_zero, e]; rfl), fun x hx => (by rw [k x hx]; exact sz0.mono (by omega))⟩
    · exact ⟨List.nodup_nil, fun x hx => (by cases hx), fun x hx => (by cases hx)⟩
  -- a candidate
  have hc : ∀ sg a b : Int, sg ∈ [(1 : Int), -1] → a ∈ D1 → b ∈ D2 → cand sg a b ≠ 0 ∧ Sz 30 (cand sg a b) ∧ b ≠ 0 ∧ b.natAbs < 2 ^ 20 := fun sg a b h1 h2 h3 => by
    obtain ⟨a1, a2, _⟩ := (m1 a).mp h2
    obtain ⟨b1, b2, _⟩ := (m2 b).mp h3
    have hs : sg = 1 ∨ sg = -1 := by simpa using h1
    have hsa : (sg * a).natAbs = a.natAbs := by rcases hs with e | e <;> rw [e] <;> simp
    have ha : (sg * a).natAbs < 2 ^ 20 := by rw [hsa]; omega
    have hb' : b.natAbs < 2 ^ 20 := by omega
    refine ⟨fun e => ?_, (sz_of (n := 20) (by omega) rfl ha hb').mono (by omega), by omega, hb'⟩
    have hbR : (b : Rat) ≠ 0 := fun e => by have := cast_inj (b := 0) e; omega
    have : ((sg * a : Int) : Rat) = 0 := by unfold cand at e; grind
    have := cast_inj (b := 0) this
    rw [this] at hsa
    simp at hsa; omega
  have step : ∀ (s : List (Int × Int)) (T : List Rat) (sg a b : Int), sg ∈ [(1 : Int), -1] → a ∈ D1 → b ∈ D2 → (s = T.map fr ∧ Fnd row (strip row) T) → ∃ s', (ob (omul sg a) fun t31 =>
    ob (o_lowest t31 b) fun lowest32 =>
    ob (bif (!(memT lowest32 s)) then (ob (o_worth (strip row) lowest32) fun worth33 => some (decide (worth33.1 = (0 : Int)))) else (some false)) fun c34 =>
    ob (bif c34 then (
    ob (oapp s lowest32) fun told36 =>
    some told36) else (
    some s)) fun j35 =>
    some j35) = some s' ∧ s' = (push (strip row) T (cand sg a b)).map fr ∧ Fnd row (strip row) (push (strip row) T (cand sg a b)) := fun s T sg a b h1 h2 h3 ⟨hs, hF⟩ => by
    obtain ⟨c1, c2, c3, c4⟩ := hc sg a b h1 h2 h3
    refine ⟨_, ?_, rfl, hF.push c1 (hSr _ c1) c2⟩
    have hsg : sg.natAbs < 18446744073709551616 := by
      have : sg = 1 ∨ sg = -1 := by simpa using h1
      rcases this with e | e <;> rw [e] <;> decide
    have hlow : o_lowest (sg * a) b = some (fr (cand sg a b)) := lowest_ok c3 (Nat.lt_of_lt_of_le c4 (pow_le (by omega)))
    rw [omul_l hsg, ob_some, hlow, ob_some, hs]
    rw [memT_fr, worth_row c2 hBd (by omega), ob_some]
    have hz : decide ((fr (hor (strip row) (cand sg a b))).1 = 0) = decide (hor (strip row) (cand sg a b) = 0) := by
      rw [decide_eq_decide]; exact Rat.num_eq_zero
    rw [hz]
    by_cases q1 : cand sg a b ∈ T
    · rw [decide_eq_true q1]
      show ob (some false) _ = _
      rw [ob_some, cond_false, ob_some, show push (strip row) T (cand sg a b) = T from if_neg (fun z => z.1 q1)]
    · rw [decide_eq_false q1]
      show ob (some (decide (hor (strip row) (cand sg a b) = 0))) _ = _
      rw [ob_some]
      by_cases q2 : hor (strip row) (cand sg a b) = 0
      · have hlen := hF.len hl hL
        rw [decide_eq_true q2, cond_true]
        have : oapp (T.map fr) (fr (cand sg a b)) = some ((push (strip row) T (cand sg a b)).map fr) := by
          unfold oapp push
          rw [if_pos (by rw [List.length_map, decide_eq_true_eq]; omega), if_pos ⟨q1, q2⟩, List.map_append]; rfl
        rw [this, ob_some, ob_some]
      · rw [decide_eq_false q2, cond_false, ob_some, show push (strip row) T (cand sg a b) = T from if_neg (fun z => q2 z.2)]
  obtain ⟨TF, hTF⟩ : ∃ TF : List Rat, TF = D1.foldl (fun T a => D2.foldl (fun T b => [(1 : Int), -1].foldl (fun T sg => push (strip row) T (cand sg a b)) T) T) T0 := ⟨_, rfl⟩
  have hlast : oget (strip row) (-(1 : Int)) = some L := by
    rcases List.eq_nil_or_concat (strip row) with e | ⟨q, z, e⟩
    · rw [e] at hS; cases hS
    · rw [List.concat_eq_append] at e
      rw [e] at hSl ⊢
      rw [List.getLast?_append] at hSl
      simp at hSl
      subst hSl
      exact oget_neg1
  have abss : ∀ x : Int, absT x = (x.natAbs : Int) := fun x => by unfold absT; split <;> omega
  obtain ⟨sf, hsf, hsf2, hF⟩ := forO_rel (f := fun s11 x17 =>
    ob (oget (strip row) (-(1 : Int))) fun g18 =>
    ob (o_divisors (absT g18)) fun diviso19 =>
    ob (forO (σ := List (Int × Int)) (fun s20 x25 =>
    ob (forO (σ := List (Int × Int)) (fun s26 x30 =>
    ob (omul x30 x17) fun t31 =>
    ob (o_lowest t31 x25) fun lowest32 =>
    ob (bif (!(memT lowest32 s26)) then (ob (o_worth (strip row) lowest32) fun worth33 => some (decide (worth33.1 = (0 : Int)))) else (some false)) fun c34 =>
    ob (bif c34 then (
    ob (oapp s26 lowest32) fun told36 =>
    some told36) else (
    some s26)) fun j35 =>
    some j35) ([(1 : Int), (-(1 : Int))]) s20) fun s27 =>
    some s27) diviso19 s11) fun s21 =>
    some s21) (g := fun T a => D2.foldl (fun T b => [(1 : Int), -1].foldl (fun T sg => push (strip row) T (cand sg a b)) T) T) (fun s T => s = T.map fr ∧ Fnd row (strip row) T) (xs := D1) (s := T0.map fr) (t := T0) (fun s T a ha hR => by
      rw [hlast, ob_some, abss, d2, ob_some]
      obtain ⟨s', h1, h2⟩ := forO_rel (f := fun s20 x25 =>
        ob (forO (σ := List (Int × Int)) (fun s26 x30 =>
        ob (omul x30 a) fun t31 =>
        ob (o_lowest t31 x25) fun lowest32 =>
        ob (bif (!(memT lowest32 s26)) then (ob (o_worth (strip row) lowest32) fun worth33 => some (decide (worth33.1 = (0 : Int)))) else (some false)) fun c34 =>
        ob (bif c34 then (
        ob (oapp s26 lowest32) fun told36 =>
        some told36) else (
        some s26)) fun j35 =>
        some j35) ([(1 : Int), (-(1 : Int))]) s20) fun s27 =>
        some s27) (g := fun T b => [(1 : Int), -1].foldl (fun T sg => push (strip row) T (cand sg a b)) T) (fun s T => s = T.map fr ∧ Fnd row (strip row) T) (xs := D2) (s := s) (t := T) (fun s T b hb' hR => by
          obtain ⟨s', h1, h2⟩ := forO_rel (g := fun T sg => push (strip row) T (cand sg a b)) (fun s T => s = T.map fr ∧ Fnd row (strip row) T) (xs := [(1 : Int), -1]) (s := s) (t := T) (fun s T sg hsg hR => step s T sg a b hsg ha hb' hR) hR
          exact ⟨s', ob_of h1 rfl, h2⟩) hR
      exact ⟨s', ob_of h1 rfl, h2⟩) ⟨rfl, F0⟩
  rw [← hTF] at hsf2 hF
  obtain ⟨l, hl1, hl2, hl3⟩ := rising_ok hF.nd (fun x hx => (hF.z x hx).mono (by omega)) (by have := hF.len hl hL; omega)
  refine ⟨l, ?_, hl2, fun x => ?_, fun x hx => hF.z x ((hl3 x).mp hx)⟩
  · unfold o_rational_roots
    rw [ob_some]
    have hg : oget row (0 : Int) = some a0 := by rw [hrow]; exact oget_0
    rw [hg, ob_some]
    have hj : (bif (decide (a0 = (0 : Int))) then (
      ob (oapp ([] : List (Int × Int)) ((0 : Int), (1 : Int))) fun told4 =>
      ob (whO (σ := List Int) (fun s5 => ob (oget s5 (0 : Int)) fun g7 => some (decide (g7 = (0 : Int)))) (fun s5 =>
      ob (some (cutT s5 (some (1 : Int)) none)) fun numbers8 =>
      some numbers8) WW row) fun s6 =>
      some (s6, told4)) else (
      some (row, ([] : List (Int × Int))))) = some (strip row, T0.map fr) := by
      by_cases e : a0 = 0
      · rw [decide_eq_true e, cond_true, hT0, if_pos e]
        have : oapp ([] : List (Int × Int)) ((0 : Int), (1 : Int)) = some [(0, 1)] := rfl
        rw [this, ob_some, strip_go WW row ⟨L, hSm L hLm, hL⟩ (by show row.length < 100000; omega), ob_some]
        rfl
      · rw [decide_eq_false e, cond_false, hT0, if_neg e, hrow, strip, if_neg e]; rfl
    rw [hj, ob_some]
    have hg2 : oget (strip row) (0 : Int) = some s0 := by rw [hS]; exact oget_0
    show ob (oget (strip row) 0) _ = _
    rw [hg2, ob_some, abss, d1, ob_some]
    refine ob_of hsf ?_
    rw [hsf2, hl1, ob_some]
  · rw [hl3]
    constructor
    · exact hF.r x
    · intro hx
      rw [hTF]
      by_cases x0 : x = 0
      · have ha : a0 = 0 := by
          rw [x0, hrow, hor_zero] at hx
          exact cast_inj (b := 0) hx
        refine foldl_keep (fun T => x ∈ T) (fun T a _ h => foldl_keep (fun T => x ∈ T) (fun T b _ h => foldl_keep (fun T => x ∈ T) (fun T sg _ h => push_sub h) h) h) ?_
        rw [hT0, if_pos ha, x0]; simp
      · have hxS := (hSr x x0).mp hx
        have hn0 := num_ne x0
        have hd1 : x.num ∣ s0 := by rw [hS] at hxS; exact root_first hxS
        have hd2 : (x.den : Int) ∣ L := by
          rcases List.eq_nil_or_concat (strip row) with e | ⟨q, z, e⟩
          · rw [e] at hS; cases hS
          · rw [List.concat_eq_append] at e
            rw [e] at hSl hxS
            rw [List.getLast?_append] at hSl
            simp at hSl
            subst hSl
            exact root_last hxS
        have pd := den_pos x
        have ma : (x.num.natAbs : Int) ∈ D1 := (m1 _).mpr ⟨by omega, by
          have := Nat.le_of_dvd (by omega) (Int.natAbs_dvd_natAbs.mpr hd1); omega, Int.natCast_dvd_natCast.mpr (Int.natAbs_dvd_natAbs.mpr hd1)⟩
        have mb : (x.den : Int) ∈ D2 := (m2 _).mpr ⟨by omega, by
          have := Nat.le_of_dvd (by omega) (Int.natAbs_dvd_natAbs.mpr hd2); simp at this; omega, Int.natCast_dvd_natCast.mpr (by simpa using Int.natAbs_dvd_natAbs.mpr hd2)⟩
        obtain ⟨sg, hsg, e⟩ : ∃ sg : Int, sg ∈ [(1 : Int), -1] ∧ cand sg (x.num.natAbs : Int) (x.den : Int) = x := by
          rcases Int.natAbs_eq x.num with h | h
          · exact ⟨1, by simp, by unfold cand; rw [Int.one_mul, ← h]; exact (eq_nd x).symm⟩
          · exact ⟨-1, by simp, by unfold cand; rw [Int.neg_mul, Int.one_mul, ← h]; exact (eq_nd x).symm⟩
        refine foldl_get (fun T => x ∈ T) (x0 := (x.num.natAbs : Int)) (fun T a _ h => foldl_keep (fun T => x ∈ T) (fun T b _ h => foldl_keep (fun T => x ∈ T) (fun T sg _ h => push_sub h) h) h) (fun T => ?_) ma
        refine foldl_get (fun T => x ∈ T) (x0 := (x.den : Int)) (fun T b _ h => foldl_keep (fun T => x ∈ T) (fun T sg _ h => push_sub h) h) (fun T => ?_) mb
        refine foldl_get (fun T => x ∈ T) (x0 := sg) (fun T sg _ h => push_sub h) (fun T => ?_) hsg
        rw [e]
        exact push_get hxS
end Zz.Rt
/-! ZPol: products of rows. -/
namespace Zz.Rt
open PySem
def o_poly_times (one_ : List Int) (other_ : List Int) : Option (List Int) :=
  ob (orep ([(0 : Int)] : List Int) (((one_.length : Int) + (other_.length : Int)) - (1 : Int))) fun rep1 =>
  ob (forO (σ := List Int) (fun s2 x8 =>
    ob (forO (σ := List Int) (fun s9 x13 =>
    ob (oget s9 (x8.1 + x13.1)) fun g14 =>
    ob (omul x8.2 x13.2) fun t15 =>
    ob (oset s9 (x8.1 + x13.1) (g14 + t15)) fun told16 =>
    some told16) (enumT 0 other_) s2) fun s10 =>
    some s10) (enumT 0 one_) rep1) fun s3 =>
  some s3
def o__law_times (one_ : List Int) (other_ : List Int) : Option (List Int) :=
  ob (orng1 (((one_.length : Int) + (other_.length : Int)) - (1 : Int))) fun rng1 =>
  ob (olen (rng1.map fun x2 => (0 : Int))) fun l3 =>
  ob (orng1 (one_.length : Int)) fun rng4 =>
  ob (forO (σ := List Int) (fun s5 x9 =>
    ob (orng1 (other_.length : Int)) fun rng10 =>
    ob (forO (σ := List Int) (fun s11 x14 =>
    ob (oget s11 (x9 + x14)) fun g15 =>
    ob (oget one_ x9) fun g16 =>
    ob (oget other_ x14) fun g17 =>
    ob (omul g16 g17) fun t18 =>
    ob (oset s11 (x9 + x14) (g15 + t18)) fun out19 =>
    some out19) rng10 s5) fun s12 =>
    some s12) rng4 l3) fun s6 =>
  some s6
/-! ### rows of numbers -/
def G (l : List Int) (j : Nat) : Int := l.getD j 0
def updAt (l : List Int) (n : Nat) (c : Int) : List Int → List Int
  | [] => l
  | b :: q => updAt (l.set n (G l n + c * b)) (n + 1) c q
def U (n : Nat) (c : Int) : List Int → Nat → Int
  | [], _ => 0
  | b :: q, j => (if j = n then c * b else 0) + U (n + 1) c q j
theorem G_set {l : List Int} {n j : Nat} {v : Int} (h : n < l.length) : G (l.set n v) j = if j = n then v else G l j := by
  unfold G
  rw [List.getD_eq_getElem?_getD, List.getD_eq_getElem?_getD, List.getElem?_set]
  by_cases e : n = j
  · subst e; simp [h]
  · rw [if_neg e, if_neg (fun z => e z.symm)]
theorem upd_len : ∀ (q : List Int) (l : List Int) (n : Nat) (c : Int), (updAt l n c q).length = l.length
  | [], _, _, _ => rfl
  | b :: q, l, n, c => by rw [updAt, upd_len q, List.length_set]
theorem G_upd : ∀ (q : List Int) (l : List Int) (n : Nat) (c : Int) (j : Nat), n + q.length ≤ l.length → G (updAt l n c q) j = G l j + U n c q j
  | [], l, n, c, j, _ => by simp [updAt, U]
  | b :: q, l, n, c, j, h => by
    rw [List.length_cons] at h
    rw [updAt, G_upd q _ _ _ _ (by rw [List.length_set]; omega), G_set (by omega), U]
    by_cases e : j = n
    · subst e; simp only [if_true]; omega
    · simp only [if_neg e]; omega
theorem U_neg : ∀ (q : List Int) (n : Nat) (c : Int) (j : Nat), U n (-c) q j = -U n c q j
  | [], _, _, _ => rfl
  | b :: q, n, c, j => by
    rw [U, U, U_neg q]
    split
    · rw [Int.neg_mul]; omega
    · omega
theorem U_hi : ∀ (q : List Int) (n : Nat) (c : Int) (j : Nat), n + q.length ≤ j → U n c q j = 0
  | [], _, _, _, _ => rfl
  | b :: q, n, c, j, h => by
    rw [List.length_cons] at h
    rw [U, if_neg (by omega), U_hi q _ _ _ (by omega)]; rfl
theorem U_top : ∀ (q : List Int) (n : Nat) (c : Int), U n c (q ++ [1]) (n + q.length) = c
  | [], n, c => by simp [U]
  | b :: q, n, c => by
    rw [List.cons_append, U, if_neg (by rw [List.length_cons]; omega), List.length_cons, show n + (q.length + 1) = n + 1 + q.length by omega, U_top q]; omega
theorem ext {a b : List Int} (h : a.length = b.length) (k : ∀ j, G a j = G b j) : a = b := by
  refine List.ext_getElem h fun j h1 h2 => ?_
  have := k j
  unfold G at this
  rw [List.getD_eq_getElem?_getD, List.getD_eq_getElem?_getD, List.getElem?_eq_getElem h1, List.getElem?_eq_getElem h2] at this
  exact this
theorem upd_back {l q : List Int} {n : Nat} {c : Int} (h : n + q.length ≤ l.length) : updAt (updAt l n c q) n (-c) q = l := by
  refine ext (by rw [upd_len, upd_len]) fun j => ?_
  rw [G_upd _ _ _ _ _ (by rw [upd_len]; exact h), G_upd _ _ _ _ _ h, U_neg]; omega
def rows (q : List Int) : Nat → List Int → List Int → List Int
  | _, l, [] => l
  | k, l, a :: p => rows q (k + 1) (updAt l k a q) p
def SS (q : List Int) : Nat → List Int → Nat → Int
  | _, [], _ => 0
  | k, a :: p, j => U k a q j + SS q (k + 1) p j
theorem rows_len (q : List Int) : ∀ (p : List Int) (k : Nat) (l : List Int), (rows q k l p).length = l.length
  | [], _, _ => rfl
  | a :: p, k, l => by rw [rows, rows_len q p, upd_len]
theorem G_rows (q : List Int) : ∀ (p : List Int) (k : Nat) (l : List Int) (j : Nat), k + p.length + q.length ≤ l.length + 1 → G (rows q k l p) j = G l j + SS q k p j
  | [], _, _, _, _ => by simp [rows, SS]
  | a :: p, k, l, j, h => by
    rw [List.length_cons] at h
    rw [rows, G_rows q p _ _ _ (by rw [upd_len]; omega), G_upd _ _ _ _ _ (by omega), SS]; omega
theorem SS_hi (q : List Int) (hq : 0 < q.length) : ∀ (p : List Int) (k j : Nat), k + p.length + q.length ≤ j + 1 → SS q k p j = 0
  | [], _, _, _ => rfl
  | a :: p, k, j, h => by
    rw [List.length_cons] at h
    rw [SS, U_hi _ _ _ _ (by omega), SS_hi q hq p _ _ (by omega)]; rfl
theorem rows_snoc (q : List Int) (a : Int) : ∀ (p : List Int) (k : Nat) (l : List Int), rows q k l (p ++ [a]) = updAt (rows q k l p) (k + p.length) a q
  | [], k, l => rfl
  | b :: p, k, l => by rw [List.cons_append, rows, rows, rows_snoc q a p, List.length_cons, show k + 1 + p.length = k + (p.length + 1) by omega]
/-! ### products -/
def sml (p : List Int) : Prop := ∀ c, c ∈ p → c.natAbs < 18446744073709551616
theorem gg {l : List Int} {n : Nat} (h : n < l.length) : oget l (n : Int) = some (G l n) := by
  refine oget_ok ?_
  unfold G
  rw [List.getD_eq_getElem?_getD, List.getElem?_eq_getElem h]; rfl
theorem row_add {a : Int} (ha : a.natAbs < 18446744073709551616) {x : Nat} : ∀ (q : List Int) (k : Nat) (s : List Int), x + k + q.length ≤ s.length →
    forO (fun s9 (x13 : Int × Int) => ob (oget s9 ((x : Int) + x13.1)) fun g => ob (omul a x13.2) fun t => ob (oset s9 ((x : Int) + x13.1) (g + t)) fun told => some told) (enumT (k : Int) q) s = some (updAt s (x + k) a q)
  | [], k, s, _ => rfl
  | b :: q, k, s, h => by
    rw [List.length_cons] at h
    have e : (x : Int) + (k : Int) = ((x + k : Nat) : Int) := by omega
    rw [enumT]
    unfold forO
    simp only [e, gg (show x + k < s.length by omega), ob_some, omul_l (j := b) ha, oset_ok (show x + k < s.length by omega)]
    rw [updAt, show (k : Int) + 1 = ((k + 1 : Nat) : Int) by omega]
    exact row_add ha (x := x) q (k + 1) (s.set (x + k) (G s (x + k) + a * b)) (by rw [List.length_set]; omega)
theorem times_ok {p q : List Int} (hp : 0 < p.length) (hq : 0 < q.length) (hp2 : p.length ≤ 1000) (hq2 : q.length ≤ 1000) (sp : sml p) : o_poly_times p q = some (rows q 0 (List.replicate (p.length + q.length - 1) 0) p) := by
  unfold o_poly_times
  have e : (p.length : Int) + (q.length : Int) - 1 = ((p.length + q.length - 1 : Nat) : Int) := by omega
  rw [e, orep1 (by omega), ob_some]
  have key : ∀ (p' : List Int) (k : Nat) (s : List Int), sml p' → k + p'.length + q.length ≤ s.length + 1 → forO (σ := List Int) (fun s2 (x8 : Int × Int) =>
    ob (forO (σ := List Int) (fun s9 (x13 : Int × Int) =>
    ob (oget s9 (x8.1 + x13.1)) fun g14 =>
    ob (omul x8.2 x13.2) fun t15 =>
    ob (oset s9 (x8.1 + x13.1) (g14 + t15)) fun told16 =>
    some told16) (enumT 0 q) s2) fun s10 =>
    some s10) (enumT (k : Int) p') s = some (rows q k s p') := by
    intro p'
    induction p' with
    | nil => intro k s _ _; rfl
    | cons a p' ih =>
      intro k s sp h
      rw [List.length_cons] at h
      rw [enumT]
      unfold forO
      have := row_add (sp a List.mem_cons_self) (x := k) q 0 s (by omega)
      rw [show ((0 : Nat) : Int) = 0 from rfl] at this
      simp only [this, ob_some]
      rw [show (k : Int) + 1 = ((k + 1 : Nat) : Int) by omega, ih (k + 1) _ (fun c hc => sp c (List.mem_cons_of_mem _ hc)) (by rw [upd_len]; omega)]
      rfl
  have := key p 0 (List.replicate (p.length + q.length - 1) 0) sp (by rw [List.length_replicate]; omega)
  rw [show ((0 : Nat) : Int) = 0 from rfl] at this
  rw [this]; rfl
theorem map0 : ∀ (n : Nat) (lo : Int), (rng lo n).map (fun _ => (0 : Int)) = List.replicate n 0
  | 0, _ => rfl
  | n + 1, lo => by rw [rng, List.map_cons, map0 n, List.replicate_succ]
theorem ltimes_ok {p q : List Int} (hp : 0 < p.length) (hq : 0 < q.length) (hp2 : p.length ≤ 1000) (hq2 : q.length ≤ 1000) (sp : sml p) : o__law_times p q = some (rows q 0 (List.replicate (p.length + q.length - 1) 0) p) := by
  rw [← times_ok hp hq hp2 hq2 sp]
  unfold o__law_times o_poly_times
  have e : (p.length : Int) + (q.length : Int) - 1 = ((p.length + q.length - 1 : Nat) : Int) := by omega
  rw [e, orng1_ok (by omega), ob_some, orep1 (by omega), ob_some, map0, olen_ok (by rw [List.length_replicate]; omega), ob_some, orng1_ok (by omega), ob_some]
  congr 1
  rw [show (0 : Int) = ((0 : Nat) : Int) from rfl]
  refine forO_enum fun s i a ha => ?_
  simp only [Nat.zero_add]
  rw [orng1_ok (by omega), ob_some]
  congr 1
  rw [show (0 : Int) = ((0 : Nat) : Int) from rfl]
  refine forO_enum fun s j b hb => ?_
  simp only [Nat.zero_add, oget_ok ha, oget_ok hb, ob_some]

end Zz.Rt
namespace Zz.K68
open PySem PySem.Spec PyProof.Rows L2
def top (i : Nat) : Stmt := PySem.Challenge.pw_threecorners_k68_whole_roots_that_are_dr.main.body.getD i (.Pass ⟨0, 0, 0, 0⟩)
def b_lowest : List S := [
    .asg (.var 2) (.ite (.cmp (.var 1) [.gt] [(.lit (.int 0))]) (.bi .gcd [(.var 0), (.var 1)]) (.neg (.bi .gcd [(.var 0), (.var 1)]))),
    .ret (.tup [(.op .fdiv (.var 0) (.var 2)), (.op .fdiv (.var 1) (.var 2))])]
def f_lowest : Fd := ⟨"lowest", top 2, ["p", "q"], ["p", "q", "common"], b_lowest, []⟩
def b_worth : List S := [
    .asg (.var 2) (.tup [(.lit (.int 0)), (.lit (.int 1))]),
    .for_ (.var 3) (.bi .rev [(.var 0)]) [
      .asg (.var 2) (.call 0 false [(.op .add (.op .mul (.ix (.var 2) (.lit (.int 0))) (.ix (.var 1) (.lit (.int 0)))) (.op .mul (.op .mul (.var 3) (.ix (.var 2) (.lit (.int 1)))) (.ix (.var 1) (.lit (.int 1))))), (.op .mul (.ix (.var 2) (.lit (.int 1))) (.ix (.var 1) (.lit (.int 1))))])],
    .ret (.var 2)]
def f_worth : Fd := ⟨"worth", top 4, ["row", "place"], ["row", "place", "told", "one"], b_worth, []⟩
def b_divisors : List S := [
    .ret (.comp [1] (.var 1) (.bi .range [(.lit (.int 1)), (.op .add (.var 0) (.lit (.int 1)))]) [(.cmp (.op .mod (.var 0) (.var 1)) [.eq] [(.lit (.int 0))])] (.var 1))]
def f_divisors : Fd := ⟨"divisors", top 5, ["n"], ["n", "d"], b_divisors, []⟩
def b_rational_roots : List S := [
    .asg (.var 1) (.bi .list [(.var 0)]),
    .asg (.var 2) (.lst []),
    .ifs (.cmp (.ix (.var 1) (.lit (.int 0))) [.eq] [(.lit (.int 0))]) [
      .app 2 (.tup [(.lit (.int 0)), (.lit (.int 1))]),
      .whl (.cmp (.ix (.var 1) (.lit (.int 0))) [.eq] [(.lit (.int 0))]) [
        .asg (.var 1) (.sl (.var 1) [(.lit (.int 1))] [])]] [],
    .for_ (.var 3) (.call 2 false [(.bi .abs [(.ix (.var 1) (.lit (.int 0)))])]) [
      .for_ (.var 4) (.call 2 false [(.bi .abs [(.ix (.var 1) (.neg (.lit (.int 1))))])]) [
        .for_ (.var 5) (.tup [(.lit (.int 1)), (.neg (.lit (.int 1)))]) [
          .asg (.var 6) (.call 0 false [(.op .mul (.var 5) (.var 3)), (.var 4)]),
          .ifs (.and [(.cmp (.var 6) [.nmem] [(.var 2)]), (.cmp (.ix (.call 1 false [(.var 1), (.var 6)]) (.lit (.int 0))) [.eq] [(.lit (.int 0))])]) [
            .app 2 (.var 6)] []]]],
    .ret (.call 4 false [(.var 2)])]
def f_rational_roots : Fd := ⟨"rational_roots", top 6, ["row"], ["row", "numbers", "told", "above", "below", "sign", "one"], b_rational_roots, [2]⟩
def b_rising : List S := [
    .asg (.var 1) (.bi .list [(.var 0)]),
    .asg (.var 2) (.lst []),
    .whl (.var 1) [
      .asg (.var 3) (.ix (.var 1) (.lit (.int 0))),
      .for_ (.var 4) (.sl (.var 1) [(.lit (.int 1))] []) [
        .ifs (.cmp (.op .mul (.ix (.var 4) (.lit (.int 0))) (.ix (.var 3) (.lit (.int 1)))) [.lt] [(.op .mul (.ix (.var 3) (.lit (.int 0))) (.ix (.var 4) (.lit (.int 1))))]) [
          .asg (.var 3) (.var 4)] []],
      .app 2 (.var 3),
      .rem 1 (.var 3)],
    .ret (.var 2)]
def f_rising : Fd := ⟨"rising", top 7, ["rows"], ["rows", "left", "told", "least", "one"], b_rising, [2, 1]⟩
def b_is_drawn_cubic : List S := [
    .ret (.cmp (.bi .len [(.call 3 false [(.var 0)])]) [.gt] [(.lit (.int 0))])]
def f_is_drawn_cubic : Fd := ⟨"is_drawn_cubic", top 8, ["row"], ["row"], b_is_drawn_cubic, []⟩
def b_resolvent : List S := [
    .asg (.tup [.var 1, .var 2, .var 3, .var 4, .var 5]) (.var 0),
    .ret (.tup [(.op .sub (.op .sub (.op .mul (.op .mul (.lit (.int 4)) (.var 3)) (.var 1)) (.op .mul (.op .mul (.var 4) (.var 4)) (.var 1))) (.op .mul (.var 2) (.var 2))), (.op .sub (.op .mul (.var 4) (.var 2)) (.op .mul (.lit (.int 4)) (.var 1))), (.neg (.var 3)), (.lit (.int 1))])]
def f_resolvent : Fd := ⟨"resolvent", top 9, ["row"], ["row", "d", "c", "b", "a", "_"], b_resolvent, []⟩
def b_is_drawn_quartic : List S := [
    .ret (.cmp (.bi .len [(.call 3 false [(.call 6 false [(.var 0)])])]) [.gt] [(.lit (.int 0))])]
def f_is_drawn_quartic : Fd := ⟨"is_drawn_quartic", top 10, ["row"], ["row"], b_is_drawn_quartic, []⟩
def b_third_cubic : List S := [
    .ret (.tup [(.neg (.ix (.var 0) (.lit (.int 0)))), (.op .mul (.neg (.lit (.int 3))) (.ix (.var 0) (.lit (.int 1)))), (.lit (.int 0)), (.op .mul (.lit (.int 4)) (.ix (.var 0) (.lit (.int 1))))])]
def f_third_cubic : Fd := ⟨"third_cubic", top 11, ["cosine"], ["cosine"], b_third_cubic, []⟩
def b_can_third : List S := [
    .ret (.call 5 false [(.call 8 false [(.var 0)])])]
def f_can_third : Fd := ⟨"can_third", top 12, ["cosine"], ["cosine"], b_can_third, []⟩
def b_double_cosine : List S := [
    .ret (.call 0 false [(.op .sub (.op .mul (.op .mul (.lit (.int 2)) (.ix (.var 0) (.lit (.int 0)))) (.ix (.var 0) (.lit (.int 0)))) (.op .mul (.ix (.var 0) (.lit (.int 1))) (.ix (.var 0) (.lit (.int 1))))), (.op .mul (.ix (.var 0) (.lit (.int 1))) (.ix (.var 0) (.lit (.int 1))))])]
def f_double_cosine : Fd := ⟨"double_cosine", top 13, ["cosine"], ["cosine"], b_double_cosine, []⟩
def b_triple_cosine : List S := [
    .asg (.tup [.var 1, .var 2]) (.var 0),
    .ret (.call 0 false [(.op .sub (.op .mul (.op .mul (.op .mul (.lit (.int 4)) (.var 1)) (.var 1)) (.var 1)) (.op .mul (.op .mul (.op .mul (.lit (.int 3)) (.var 1)) (.var 2)) (.var 2))), (.op .mul (.op .mul (.var 2) (.var 2)) (.var 2))])]
def f_triple_cosine : Fd := ⟨"triple_cosine", top 14, ["cosine"], ["cosine", "p", "q"], b_triple_cosine, []⟩
def b__law_refill : List S := [
    .asg (.var 2) (.lit (.int 0)),
    .ifs (.var 0) [
      .asg (.var 2) (.ix (.var 0) (.op .mod (.var 1) (.bi .len [(.var 0)])))] [],
    .ifs (.cmp (.var 2) [.lt] [(.lit (.int 0))]) [
      .asg (.var 2) (.op .sub (.lit (.int 1)) (.op .mul (.lit (.int 2)) (.var 2)))] [],
    .ifs (.and [(.cmp (.var 2) [.ge] [(.op .pow (.lit (.int 10)) (.lit (.int 18)))]), (.cmp (.var 1) [.lt] [(.bi .len [(.var 0)])])]) [
      .ret (.var 2)] [],
    .ret (.op .mod (.bi .int1 [(.op .add (.op .mul (.bi .int1 [(.op .add (.op .add (.op .mul (.var 2) (.lit (.int 48271))) (.op .mul (.var 1) (.lit (.int 69621)))) (.lit (.int 12345)))]) (.lit (.int 40692))) (.lit (.int 7)))]) (.lit (.int 2147483399)))]
def f__law_refill : Fd := ⟨"_law_refill", top 16, ["script", "k"], ["script", "k", "cell"], b__law_refill, []⟩
def b__law_draw : List S := [
    .ifs (.cmp (.ix (.var 0) (.lit (.int 1))) [.eq] [(.lit (.int 0))]) [
      .stS 0 (.lit (.int 1)) (.call 12 false [(.var 1), (.ix (.var 0) (.lit (.int 0)))]),
      .stS 0 (.lit (.int 0)) (.op .add (.ix (.var 0) (.lit (.int 0))) (.lit (.int 1)))] [],
    .asg (.var 3) (.op .mod (.bi .int1 [(.ix (.var 0) (.lit (.int 1)))]) (.var 2)),
    .stS 0 (.lit (.int 1)) (.op .fdiv (.ix (.var 0) (.lit (.int 1))) (.var 2)),
    .ret (.var 3)]
def f__law_draw : Fd := ⟨"_law_draw", top 17, ["state", "script", "size"], ["state", "script", "size", "digit"], b__law_draw, []⟩
def b__law_exact : List S := [
    .ifs (.isi [.list, .tuple] (.var 0)) [
      .ifs (.or [(.cmp (.isi [.list] (.var 0)) [.ne] [(.isi [.list] (.var 1))]), (.cmp (.isi [.tuple] (.var 0)) [.ne] [(.isi [.tuple] (.var 1))])]) [
        .ret (.lit (.bl false))] [],
      .ret (.and [(.cmp (.bi .len [(.var 0)]) [.eq] [(.bi .len [(.var 1)])]), (.bi .all [(.comp [2] (.var 2) (.bi .range [(.bi .len [(.var 0)])]) [] (.call 14 false [(.ix (.var 0) (.var 2)), (.ix (.var 1) (.var 2))]))])])] [],
    .ifs (.or [(.cmp (.var 0) [.is] [(.lit (.non))]), (.cmp (.var 1) [.is] [(.lit (.non))])]) [
      .ret (.and [(.cmp (.var 0) [.is] [(.lit (.non))]), (.cmp (.var 1) [.is] [(.lit (.non))])])] [],
    .asg (.var 3) (.and [(.cmp (.isi [.str] (.var 0)) [.eq] [(.isi [.str] (.var 1))]), (.cmp (.isi [.bool] (.var 0)) [.eq] [(.isi [.bool] (.var 1))])]),
    .ret (.and [(.var 3), (.cmp (.isi [.int] (.var 0)) [.eq] [(.isi [.int] (.var 1))]), (.cmp (.var 0) [.eq] [(.var 1)])])]
def f__law_exact : Fd := ⟨"_law_exact", top 18, ["first", "second"], ["first", "second", "k", "alike"], b__law_exact, []⟩
def b__law_common : List S := [
    .asg (.tup [.var 0, .var 1]) (.tup [(.bi .abs [(.var 0)]), (.bi .abs [(.var 1)])]),
    .whl (.cmp (.var 1) [.gt] [(.lit (.int 0))]) [
      .asg (.var 2) (.op .mod (.bi .int1 [(.var 0)]) (.var 1)),
      .asg (.var 0) (.var 1),
      .asg (.var 1) (.var 2)],
    .ret (.var 0)]
def f__law_common : Fd := ⟨"_law_common", top 19, ["one", "other"], ["one", "other", "rest"], b__law_common, []⟩
def b__law_lowest : List S := [
    .asg (.var 2) (.call 15 false [(.var 0), (.var 1)]),
    .asg (.var 3) (.ite (.cmp (.var 1) [.lt] [(.lit (.int 0))]) (.neg (.lit (.int 1))) (.lit (.int 1))),
    .ret (.tup [(.op .fdiv (.op .mul (.var 3) (.var 0)) (.var 2)), (.op .fdiv (.op .mul (.var 3) (.var 1)) (.var 2))])]
def f__law_lowest : Fd := ⟨"_law_lowest", top 20, ["above", "below"], ["above", "below", "one", "sign"], b__law_lowest, []⟩
def b__law_plus : List S := [
    .ret (.call 16 false [(.op .add (.op .mul (.ix (.var 0) (.lit (.int 0))) (.ix (.var 1) (.lit (.int 1)))) (.op .mul (.ix (.var 1) (.lit (.int 0))) (.ix (.var 0) (.lit (.int 1))))), (.op .mul (.ix (.var 0) (.lit (.int 1))) (.ix (.var 1) (.lit (.int 1))))])]
def f__law_plus : Fd := ⟨"_law_plus", top 21, ["one", "other"], ["one", "other"], b__law_plus, []⟩
def b__law_product : List S := [
    .ret (.call 16 false [(.op .mul (.ix (.var 0) (.lit (.int 0))) (.ix (.var 1) (.lit (.int 0)))), (.op .mul (.ix (.var 0) (.lit (.int 1))) (.ix (.var 1) (.lit (.int 1))))])]
def f__law_product : Fd := ⟨"_law_product", top 22, ["one", "other"], ["one", "other"], b__law_product, []⟩
def b__law_worth : List S := [
    .asg (.tup [.var 2, .var 3]) (.tup [(.tup [(.lit (.int 0)), (.lit (.int 1))]), (.tup [(.lit (.int 1)), (.lit (.int 1))])]),
    .for_ (.var 4) (.var 0) [
      .asg (.var 2) (.call 17 false [(.var 2), (.call 18 false [(.tup [(.var 4), (.lit (.int 1))]), (.var 3)])]),
      .asg (.var 3) (.call 18 false [(.var 3), (.var 1)])],
    .ret (.var 2)]
def f__law_worth : Fd := ⟨"_law_worth", top 23, ["row", "place"], ["row", "place", "total", "power", "one"], b__law_worth, []⟩
def b__law_times : List S := [
    .asg (.var 2) (.comp [3] (.var 3) (.bi .range [(.op .sub (.op .add (.bi .len [(.var 0)]) (.bi .len [(.var 1)])) (.lit (.int 1)))]) [] (.lit (.int 0))),
    .for_ (.var 4) (.bi .range [(.bi .len [(.var 0)])]) [
      .for_ (.var 3) (.bi .range [(.bi .len [(.var 1)])]) [
        .sto 2 (.op .add (.var 4) (.var 3)) (.op .add (.ix (.var 2) (.op .add (.var 4) (.var 3))) (.op .mul (.ix (.var 0) (.var 4)) (.ix (.var 1) (.var 3))))]],
    .ret (.bi .tuple [(.var 2)])]
def f__law_times : Fd := ⟨"_law_times", top 24, ["one", "other"], ["one", "other", "out", "j", "i"], b__law_times, [2]⟩
def b__law_sorted : List S := [
    .asg (.var 1) (.lst []),
    .for_ (.var 2) (.var 0) [
      .asg (.var 3) (.comp [4] (.var 4) (.bi .range [(.bi .len [(.var 1)])]) [(.cmp (.op .mul (.ix (.ix (.var 1) (.var 4)) (.lit (.int 0))) (.ix (.var 2) (.lit (.int 1)))) [.lt] [(.op .mul (.ix (.var 2) (.lit (.int 0))) (.ix (.ix (.var 1) (.var 4)) (.lit (.int 1))))])] (.var 4)),
      .asg (.var 1) (.op .add (.op .add (.sl (.var 1) [] [(.bi .len [(.var 3)])]) (.lst [(.var 2)])) (.sl (.var 1) [(.bi .len [(.var 3)])] []))],
    .ret (.var 1)]
def f__law_sorted : Fd := ⟨"_law_sorted", top 25, ["rows"], ["rows", "out", "one", "spots", "j"], b__law_sorted, []⟩
def b__law_roots : List S := [
    .asg (.var 1) (.ix (.comp [2] (.var 2) (.var 0) [(.cmp (.var 2) [.ne] [(.lit (.int 0))])] (.var 2)) (.lit (.int 0))),
    .asg (.var 3) (.ite (.cmp (.ix (.var 0) (.lit (.int 0))) [.eq] [(.lit (.int 0))]) (.lst [(.tup [(.lit (.int 0)), (.lit (.int 1))])]) (.lst [])),
    .for_ (.var 4) (.comp [5] (.var 5) (.bi .range [(.lit (.int 1)), (.op .add (.bi .abs [(.var 1)]) (.lit (.int 1)))]) [(.cmp (.op .mul (.op .fdiv (.var 1) (.var 5)) (.var 5)) [.eq] [(.var 1)])] (.var 5)) [
      .for_ (.var 6) (.comp [5] (.var 5) (.bi .range [(.lit (.int 1)), (.op .add (.bi .abs [(.ix (.var 0) (.op .sub (.bi .len [(.var 0)]) (.lit (.int 1))))]) (.lit (.int 1)))]) [(.cmp (.op .mul (.op .fdiv (.ix (.var 0) (.op .sub (.bi .len [(.var 0)]) (.lit (.int 1)))) (.var 5)) (.var 5)) [.eq] [(.ix (.var 0) (.op .sub (.bi .len [(.var 0)]) (.lit (.int 1))))])] (.var 5)) [
        .for_ (.var 2) (.tup [(.call 16 false [(.var 4), (.var 6)]), (.call 16 false [(.neg (.var 4)), (.var 6)])]) [
          .asg (.var 3) (.op .add (.var 3) (.op .mul (.lst [(.var 2)]) (.bi .int1 [(.and [(.cmp (.var 2) [.nmem] [(.var 3)]), (.cmp (.call 19 false [(.var 0), (.var 2)]) [.eq] [(.tup [(.lit (.int 0)), (.lit (.int 1))])])])])))]]],
    .ret (.call 21 false [(.var 3)])]
def f__law_roots : Fd := ⟨"_law_roots", top 26, ["row"], ["row", "first", "one", "out", "above", "d", "below"], b__law_roots, []⟩
def b_law : List S := [
    .for_ (.var 2) (.bi .range [(.lit (.int 3))]) [
      .asg (.var 3) (.bi .tuple [(.op .add (.comp [4] (.var 4) (.bi .range [(.lit (.int 3))]) [] (.op .sub (.call 13 false [(.var 1), (.var 0), (.lit (.int 25))]) (.lit (.int 12)))) (.lst [(.op .mul (.op .add (.lit (.int 1)) (.call 13 false [(.var 1), (.var 0), (.lit (.int 5))])) (.ix (.lst [(.lit (.int 1)), (.neg (.lit (.int 1)))]) (.call 13 false [(.var 1), (.var 0), (.lit (.int 2))])))]))]),
      .ifs (.cmp (.call 13 false [(.var 1), (.var 0), (.lit (.int 2))]) [.eq] [(.lit (.int 0))]) [
        .asg (.var 3) (.call 20 false [(.tup [(.op .sub (.call 13 false [(.var 1), (.var 0), (.lit (.int 13))]) (.lit (.int 6))), (.op .add (.lit (.int 1)) (.call 13 false [(.var 1), (.var 0), (.lit (.int 4))]))]), (.tup [(.op .sub (.call 13 false [(.var 1), (.var 0), (.lit (.int 13))]) (.lit (.int 6))), (.op .sub (.call 13 false [(.var 1), (.var 0), (.lit (.int 7))]) (.lit (.int 3))), (.op .add (.lit (.int 1)) (.call 13 false [(.var 1), (.var 0), (.lit (.int 3))]))])])] [],
      .asg (.var 5) (.call 22 false [(.var 3)]),
      .asg (.var 6) (.call 16 false [(.op .sub (.call 13 false [(.var 1), (.var 0), (.lit (.int 21))]) (.lit (.int 10))), (.op .add (.lit (.int 1)) (.call 13 false [(.var 1), (.var 0), (.lit (.int 6))]))]),
      .ifs (.not (.call 14 false [(.lst [(.var 5), (.cmp (.var 5) [.ne] [(.lst [])]), (.call 19 false [(.var 3), (.var 6)])]), (.lst [(.call 3 false [(.var 3)]), (.call 5 false [(.var 3)]), (.call 1 false [(.var 3), (.var 6)])])])) [
        .ret (.lit (.bl false))] [],
      .asg (.tup [.var 7, .var 8, .var 9, .var 10]) (.comp [4] (.var 4) (.bi .range [(.lit (.int 4))]) [] (.op .sub (.call 13 false [(.var 1), (.var 0), (.lit (.int 9))]) (.lit (.int 4)))),
      .asg (.var 11) (.call 20 false [(.call 20 false [(.tup [(.neg (.var 7)), (.lit (.int 1))]), (.tup [(.neg (.var 8)), (.lit (.int 1))])]), (.call 20 false [(.tup [(.neg (.var 9)), (.lit (.int 1))]), (.tup [(.neg (.var 10)), (.lit (.int 1))])])]),
      .asg (.var 12) (.call 20 false [(.call 20 false [(.tup [(.neg (.op .add (.op .mul (.var 7) (.var 8)) (.op .mul (.var 9) (.var 10)))), (.lit (.int 1))]), (.tup [(.neg (.op .add (.op .mul (.var 7) (.var 9)) (.op .mul (.var 8) (.var 10)))), (.lit (.int 1))])]), (.tup [(.neg (.op .add (.op .mul (.var 7) (.var 10)) (.op .mul (.var 8) (.var 9)))), (.lit (.int 1))])]),
      .ifs (.not (.call 14 false [(.lst [(.var 12), (.lit (.bl true))]), (.lst [(.call 6 false [(.var 11)]), (.call 7 false [(.var 11)])])])) [
        .ret (.lit (.bl false))] [],
      .asg (.tup [.var 13, .var 14, .var 15, .var 16, .var 17]) (.comp [4] (.var 4) (.bi .range [(.lit (.int 5))]) [] (.op .sub (.call 13 false [(.var 1), (.var 0), (.lit (.int 7))]) (.lit (.int 3)))),
      .asg (.tup [.var 18, .var 19]) (.tup [(.call 20 false [(.tup [(.var 14), (.var 13), (.lit (.int 1))]), (.tup [(.var 14), (.var 13), (.lit (.int 1))])]), (.call 20 false [(.tup [(.var 16), (.var 15)]), (.tup [(.var 16), (.var 15)])])]),
      .asg (.var 20) (.bi .tuple [(.comp [4] (.var 4) (.bi .range [(.lit (.int 5))]) [] (.op .sub (.ix (.var 18) (.var 4)) (.op .mul (.var 17) (.ite (.cmp (.var 4) [.lt] [(.lit (.int 3))]) (.ix (.var 19) (.var 4)) (.lit (.int 0))))))]),
      .ifs (.not (.call 7 false [(.var 20)])) [
        .ret (.lit (.bl false))] [],
      .asg (.var 21) (.tup [(.op .sub (.var 13) (.lit (.int 3))), (.var 14), (.var 15), (.lit (.int 1))]),
      .asg (.var 22) (.call 20 false [(.tup [(.neg (.var 7)), (.lit (.int 1))]), (.var 21)]),
      .ifs (.not (.call 14 false [(.cmp (.call 22 false [(.var 21)]) [.ne] [(.lst [])]), (.call 7 false [(.var 22)])])) [
        .ret (.lit (.bl false))] [],
      .asg (.var 23) (.op .add (.lit (.int 1)) (.call 13 false [(.var 1), (.var 0), (.lit (.int 30))])),
      .asg (.var 24) (.call 16 false [(.op .sub (.call 13 false [(.var 1), (.var 0), (.op .add (.op .mul (.lit (.int 2)) (.var 23)) (.lit (.int 1)))]) (.var 23)), (.var 23)]),
      .asg (.var 18) (.call 18 false [(.var 24), (.var 24)]),
      .asg (.var 25) (.call 17 false [(.call 18 false [(.tup [(.lit (.int 2)), (.lit (.int 1))]), (.var 18)]), (.tup [(.neg (.lit (.int 1))), (.lit (.int 1))])]),
      .asg (.var 26) (.call 17 false [(.call 18 false [(.tup [(.lit (.int 4)), (.lit (.int 1))]), (.call 18 false [(.var 24), (.var 18)])]), (.call 18 false [(.tup [(.neg (.lit (.int 3))), (.lit (.int 1))]), (.var 24)])]),
      .asg (.var 27) (.tup [(.neg (.ix (.var 24) (.lit (.int 0)))), (.op .mul (.neg (.lit (.int 3))) (.ix (.var 24) (.lit (.int 1)))), (.lit (.int 0)), (.op .mul (.lit (.int 4)) (.ix (.var 24) (.lit (.int 1))))]),
      .asg (.var 28) (.lst [(.var 25), (.var 26), (.var 27), (.cmp (.call 22 false [(.var 27)]) [.ne] [(.lst [])])]),
      .ifs (.or [(.not (.call 14 false [(.var 28), (.lst [(.call 10 false [(.var 24)]), (.call 11 false [(.var 24)]), (.call 8 false [(.var 24)]), (.call 9 false [(.var 24)])])])), (.and [(.cmp (.ix (.var 26) (.lit (.int 1))) [.le] [(.lit (.int 100))]), (.not (.call 9 false [(.var 26)]))])]) [
        .ret (.lit (.bl false))] [],
      .asg (.var 29) (.lst []),
      .for_ (.var 30) (.bi .range [(.lit (.int 5))]) [
        .asg (.var 31) (.call 16 false [(.op .sub (.call 13 false [(.var 1), (.var 0), (.lit (.int 21))]) (.lit (.int 10))), (.op .add (.lit (.int 1)) (.call 13 false [(.var 1), (.var 0), (.lit (.int 6))]))]),
        .asg (.var 29) (.op .add (.var 29) (.op .mul (.lst [(.var 31)]) (.bi .int1 [(.cmp (.var 31) [.nmem] [(.var 29)])])))],
      .ifs (.not (.call 14 false [(.call 21 false [(.var 29)]), (.call 4 false [(.bi .list [(.var 29)])])])) [
        .ret (.lit (.bl false))] []],
    .ret (.and [(.not (.call 9 false [(.tup [(.lit (.int 1)), (.lit (.int 2))])])), (.call 9 false [(.tup [(.lit (.int 0)), (.lit (.int 1))])]), (.not (.call 5 false [(.tup [(.neg (.lit (.int 2))), (.lit (.int 0)), (.lit (.int 0)), (.lit (.int 1))])])), (.not (.call 7 false [(.tup [(.lit (.int 1)), (.lit (.int 1)), (.lit (.int 0)), (.lit (.int 0)), (.lit (.int 1))])])), (.call 7 false [(.tup [(.neg (.lit (.int 2))), (.lit (.int 0)), (.lit (.int 0)), (.lit (.int 0)), (.lit (.int 1))])])])]
def f_law : Fd := ⟨"law", top 27, ["script"], [("script" : Str), ("state" : Str), ("k" : Str), ("row" : Str), ("j" : Str), ("roots" : Str), ("place" : Str), ("p" : Str), ("q" : Str), ("r" : Str), ("s" : Str), ("numbers" : Str), ("third" : Str), ("a" : Str), ("b" : Str), ("c" : Str), ("d" : Str), ("number" : Str), ("square" : Str), ("other" : Str), ("built" : Str), ("cubic" : Str), ("mixed" : Str), ("below" : Str), ("cosine" : Str), ("double" : Str), ("triple" : Str), ("trisected" : Str), ("due" : Str), ("rows" : Str), ("step" : Str), ("one" : Str)], b_law, []⟩
def tab : List Fd := [f_lowest, f_worth, f_divisors, f_rational_roots, f_rising, f_is_drawn_cubic, f_resolvent, f_is_drawn_quartic, f_third_cubic, f_can_third, f_double_cosine, f_triple_cosine, f__law_refill, f__law_draw, f__law_exact, f__law_common, f__law_lowest, f__law_plus, f__law_product, f__law_worth, f__law_times, f__law_sorted, f__law_roots]
theorem ok_lowest : FdOk true tab f_lowest := ⟨by kernel_rfl, by decide +kernel, ⟨rfl, rfl, rfl, by decide +kernel, rfl, by decide +kernel, by decide +kernel⟩⟩
theorem bd_lowest : BindOk f_lowest := fun kV doc pm an cdv ct us hl => match us, hl with | [_, _], _ => rfl
theorem ok_worth : FdOk true tab f_worth := ⟨by kernel_rfl, by decide +kernel, ⟨rfl, rfl, rfl, by decide +kernel, rfl, by decide +kernel, by decide +kernel⟩⟩
theorem bd_worth : BindOk f_worth := fun kV doc pm an cdv ct us hl => match us, hl with | [_, _], _ => rfl
theorem ok_divisors : FdOk true tab f_divisors := ⟨by kernel_rfl, by decide +kernel, ⟨rfl, rfl, rfl, by decide +kernel, rfl, by decide +kernel, by decide +kernel⟩⟩
theorem bd_divisors : BindOk f_divisors := fun kV doc pm an cdv ct us hl => match us, hl with | [_], _ => rfl
theorem ok_rational_roots : FdOk true tab f_rational_roots := ⟨by kernel_rfl, by decide +kernel, ⟨rfl, rfl, rfl, by decide +kernel, rfl, by decide +kernel, by decide +kernel⟩⟩
theorem bd_rational_roots : BindOk f_rational_roots := fun kV doc pm an cdv ct us hl => match us, hl with | [_], _ => rfl
theorem ok_rising : FdOk true tab f_rising := ⟨by kernel_rfl, by decide +kernel, ⟨rfl, rfl, rfl, by decide +kernel, rfl, by decide +kernel, by decide +kernel⟩⟩
theorem bd_rising : BindOk f_rising := fun kV doc pm an cdv ct us hl => match us, hl with | [_], _ => rfl
theorem ok_is_drawn_cubic : FdOk true tab f_is_drawn_cubic := ⟨by kernel_rfl, by decide +kernel, ⟨rfl, rfl, rfl, by decide +kernel, rfl, by decide +kernel, by decide +kernel⟩⟩
theorem bd_is_drawn_cubic : BindOk f_is_drawn_cubic := fun kV doc pm an cdv ct us hl => match us, hl with | [_], _ => rfl
theorem ok_resolvent : FdOk true tab f_resolvent := ⟨by kernel_rfl, by decide +kernel, ⟨rfl, rfl, rfl, by decide +kernel, rfl, by decide +kernel, by decide +kernel⟩⟩
theorem bd_resolvent : BindOk f_resolvent := fun kV doc pm an cdv ct us hl => match us, hl with | [_], _ => rfl
theorem ok_is_drawn_quartic : FdOk true tab f_is_drawn_quartic := ⟨by kernel_rfl, by decide +kernel, ⟨rfl, rfl, rfl, by decide +kernel, rfl, by decide +kernel, by decide +kernel⟩⟩
theorem bd_is_drawn_quartic : BindOk f_is_drawn_quartic := fun kV doc pm an cdv ct us hl => match us, hl with | [_], _ => rfl
theorem ok_third_cubic : FdOk true tab f_third_cubic := ⟨by kernel_rfl, by decide +kernel, ⟨rfl, rfl, rfl, by decide +kernel, rfl, by decide +kernel, by decide +kernel⟩⟩
theorem bd_third_cubic : BindOk f_third_cubic := fun kV doc pm an cdv ct us hl => match us, hl with | [_], _ => rfl
theorem ok_can_third : FdOk true tab f_can_third := ⟨by kernel_rfl, by decide +kernel, ⟨rfl, rfl, rfl, by decide +kernel, rfl, by decide +kernel, by decide +kernel⟩⟩
theorem bd_can_third : BindOk f_can_third := fun kV doc pm an cdv ct us hl => match us, hl with | [_], _ => rfl
theorem ok_double_cosine : FdOk true tab f_double_cosine := ⟨by kernel_rfl, by decide +kernel, ⟨rfl, rfl, rfl, by decide +kernel, rfl, by decide +kernel, by decide +kernel⟩⟩
theorem bd_double_cosine : BindOk f_double_cosine := fun kV doc pm an cdv ct us hl => match us, hl with | [_], _ => rfl
theorem ok_triple_cosine : FdOk true tab f_triple_cosine := ⟨by kernel_rfl, by decide +kernel, ⟨rfl, rfl, rfl, by decide +kernel, rfl, by decide +kernel, by decide +kernel⟩⟩
theorem bd_triple_cosine : BindOk f_triple_cosine := fun kV doc pm an cdv ct us hl => match us, hl with | [_], _ => rfl
theorem ok__law_refill : FdOk true tab f__law_refill := ⟨by kernel_rfl, by decide +kernel, ⟨rfl, rfl, rfl, by decide +kernel, rfl, by decide +kernel, by decide +kernel⟩⟩
theorem bd__law_refill : BindOk f__law_refill := fun kV doc pm an cdv ct us hl => match us, hl with | [_, _], _ => rfl
theorem ok__law_draw : FdOk true tab f__law_draw := ⟨by kernel_rfl, by decide +kernel, ⟨rfl, rfl, rfl, by decide +kernel, rfl, by decide +kernel, by decide +kernel⟩⟩
theorem bd__law_draw : BindOk f__law_draw := fun kV doc pm an cdv ct us hl => match us, hl with | [_, _, _], _ => rfl
theorem ok__law_exact : FdOk true tab f__law_exact := ⟨by kernel_rfl, by decide +kernel, ⟨rfl, rfl, rfl, by decide +kernel, rfl, by decide +kernel, by decide +kernel⟩⟩
theorem bd__law_exact : BindOk f__law_exact := fun kV doc pm an cdv ct us hl => match us, hl with | [_, _], _ => rfl
theorem ok__law_common : FdOk true tab f__law_common := ⟨by kernel_rfl, by decide +kernel, ⟨rfl, rfl, rfl, by decide +kernel, rfl, by decide +kernel, by decide +kernel⟩⟩
theorem bd__law_common : BindOk f__law_common := fun kV doc pm an cdv ct us hl => match us, hl with | [_, _], _ => rfl
theorem ok__law_lowest : FdOk true tab f__law_lowest := ⟨by kernel_rfl, by decide +kernel, ⟨rfl, rfl, rfl, by decide +kernel, rfl, by decide +kernel, by decide +kernel⟩⟩
theorem bd__law_lowest : BindOk f__law_lowest := fun kV doc pm an cdv ct us hl => match us, hl with | [_, _], _ => rfl
theorem ok__law_plus : FdOk true tab f__law_plus := ⟨by kernel_rfl, by decide +kernel, ⟨rfl, rfl, rfl, by decide +kernel, rfl, by decide +kernel, by decide +kernel⟩⟩
theorem bd__law_plus : BindOk f__law_plus := fun kV doc pm an cdv ct us hl => match us, hl with | [_, _], _ => rfl
theorem ok__law_product : FdOk true tab f__law_product := ⟨by kernel_rfl, by decide +kernel, ⟨rfl, rfl, rfl, by decide +kernel, rfl, by decide +kernel, by decide +kernel⟩⟩
theorem bd__law_product : BindOk f__law_product := fun kV doc pm an cdv ct us hl => match us, hl with | [_, _], _ => rfl
theorem ok__law_worth : FdOk true tab f__law_worth := ⟨by kernel_rfl, by decide +kernel, ⟨rfl, rfl, rfl, by decide +kernel, rfl, by decide +kernel, by decide +kernel⟩⟩
theorem bd__law_worth : BindOk f__law_worth := fun kV doc pm an cdv ct us hl => match us, hl with | [_, _], _ => rfl
theorem ok__law_times : FdOk true tab f__law_times := ⟨by kernel_rfl, by decide +kernel, ⟨rfl, rfl, rfl, by decide +kernel, rfl, by decide +kernel, by decide +kernel⟩⟩
theorem bd__law_times : BindOk f__law_times := fun kV doc pm an cdv ct us hl => match us, hl with | [_, _], _ => rfl
theorem ok__law_sorted : FdOk true tab f__law_sorted := ⟨by kernel_rfl, by decide +kernel, ⟨rfl, rfl, rfl, by decide +kernel, rfl, by decide +kernel, by decide +kernel⟩⟩
theorem bd__law_sorted : BindOk f__law_sorted := fun kV doc pm an cdv ct us hl => match us, hl with | [_], _ => rfl
theorem ok__law_roots : FdOk true tab f__law_roots := ⟨by kernel_rfl, by decide +kernel, ⟨rfl, rfl, rfl, by decide +kernel, rfl, by decide +kernel, by decide +kernel⟩⟩
theorem bd__law_roots : BindOk f__law_roots := fun kV doc pm an cdv ct us hl => match us, hl with | [_], _ => rfl
theorem bd_law : BindOk f_law := fun kV doc pm an cdv ct us hl => match us, hl with | [_], _ => rfl
theorem ok_law : LawOk true tab f_law := ⟨by decide +kernel, by kernel_rfl, by decide +kernel, ⟨rfl, rfl, rfl, by decide +kernel, rfl, by decide +kernel, by decide +kernel⟩, ⟨_, rfl⟩, by decide +kernel⟩
theorem tab_ok : TabOk true tab f_law := by
  refine ⟨fun d hd => ?_, ok_law, bd_law, rfl, rfl⟩
  simp only [tab, List.mem_cons, List.not_mem_nil, or_false] at hd
  rcases hd with rfl | rfl | rfl | rfl | rfl | rfl | rfl | rfl | rfl | rfl | rfl | rfl | rfl | rfl | rfl | rfl | rfl | rfl | rfl | rfl | rfl | rfl | rfl
  · exact ⟨ok_lowest, bd_lowest⟩
  · exact ⟨ok_worth, bd_worth⟩
  · exact ⟨ok_divisors, bd_divisors⟩
  · exact ⟨ok_rational_roots, bd_rational_roots⟩
  · exact ⟨ok_rising, bd_rising⟩
  · exact ⟨ok_is_drawn_cubic, bd_is_drawn_cubic⟩
  · exact ⟨ok_resolvent, bd_resolvent⟩
  · exact ⟨ok_is_drawn_quartic, bd_is_drawn_quartic⟩
  · exact ⟨ok_third_cubic, bd_third_cubic⟩
  · exact ⟨ok_can_third, bd_can_third⟩
  · exact ⟨ok_double_cosine, bd_double_cosine⟩
  · exact ⟨ok_triple_cosine, bd_triple_cosine⟩
  · exact ⟨ok__law_refill, bd__law_refill⟩
  · exact ⟨ok__law_draw, bd__law_draw⟩
  · exact ⟨ok__law_exact, bd__law_exact⟩
  · exact ⟨ok__law_common, bd__law_common⟩
  · exact ⟨ok__law_lowest, bd__law_lowest⟩
  · exact ⟨ok__law_plus, bd__law_plus⟩
  · exact ⟨ok__law_product, bd__law_product⟩
  · exact ⟨ok__law_worth, bd__law_worth⟩
  · exact ⟨ok__law_times, bd__law_times⟩
  · exact ⟨ok__law_sorted, bd__law_sorted⟩
  · exact ⟨ok__law_roots, bd__law_roots⟩
end Zz.K68
namespace Zz.K68
open PySem
abbrev PK (ns : List Int) (k : Nat) : Pr := ⟨ns, WW, callK (tab.map Fd.fn) ns WW k⟩
/-- a call gives this -/
def Cl (ns : List Int) (k i : Nat) (xs : List D) (m : List D) (v : D) (m2 : List D) : Prop := callK (tab.map Fd.fn) ns WW k i xs m = some (v, m2)
theorem ev_cl {ns : List Int} {k f : Nat} {sc : Bool} {as : List E} {e : Env} {xs m m1 m2 : List D} {v : D} (q : Cl ns k f xs m1 v m2) (h : EvEs (PK ns k) as e m xs m1) : Ev (PK ns k) (.call f sc as) e m v m2 := ev_call (r := (v, m2)) h q
abbrev o__law_draw := o_draw
theorem c__law_draw {ns : List Int} {k : Nat} {z : Int} {s : Sta} {p : Int × Sta} (h : o_draw ns z s = some p) : Cl ns (k + 2) 13 [.st, .scr, .int z] (eS s) (.int p.1) (eS p.2) := c_draw (r := 12) rfl rfl h
theorem c__law_exact {ns : List Int} {k : Nat} {m : List D} {a b : D} {q : Bool} (h : oex a b = some q) : Cl ns (k + 9) 14 [a, b] m (.bl q) m := c_exact rfl h
def o_lowest (p_ : Int) (q_ : Int) : Option (Int × Int) :=
  ob (some (bif (decide ((0 : Int) < q_)) then (gcdT p_ q_) else (-(gcdT p_ q_)))) fun common1 =>
  ob (odiv p_ common1) fun t2 =>
  ob (odiv q_ common1) fun t3 =>
  some (t2, t3)
theorem c_lowest {ns : List Int} {k : Nat} {m : List D} {p_ : Int} {q_ : Int} {r_ : (Int × Int)} (h : o_lowest p_ q_ = some r_) : Cl ns (k + 1) 0 [D.int p_, D.int q_] m ((eP D.int D.int) r_) m := by
  refine call_wp (f := f_lowest.fn) rfl rfl ?_
  change Wp (PK ns (k + 0)) b_lowest [some (D.int p_), some (D.int q_), none] m _
  unfold o_lowest at h
  obtain ⟨common1, hcommon1, h⟩ := ob_inv h
  refine wp_asg (e1 := [some (D.int p_), some (D.int q_), some (D.int common1)]) (ev_eq (ea := D.int) (t := (bif (decide ((0 : Int) < q_)) then (gcdT p_ q_) else (-(gcdT p_ q_)))) (ev_ite (f := fun b => D.int (bif b then (gcdT p_ q_) else (-(gcdT p_ q_)))) (g := fun _ => m) (tr_bl (ev_cmp1 (ev_var rfl) ev_lit q_gt)) (fun _ => (ev_bi2 (ev_var rfl) (ev_var rfl) b_gcd)) (fun _ => (ev_neg (ev_bi2 (ev_var rfl) (ev_var rfl) b_gcd)))) hcommon1) rfl ?_
  obtain ⟨t2, ht2, h⟩ := ob_inv h
  obtain ⟨t3, ht3, h⟩ := ob_inv h
  cases h
  exact wp_ret (ev_tu (evs_cons (ev_div (ev_var rfl) (ev_var rfl) ht2) (evs_cons (ev_div (ev_var rfl) (ev_var rfl) ht3) evs_nil)) rfl) rfl
def o_divisors (n_ : Int) : Option (List Int) :=
  ob (orng2 (1 : Int) (n_ + (1 : Int))) fun rng1 =>
  ob (flO (fun x2 => ob (omod n_ x2) fun t3 => some (decide (t3 = (0 : Int)))) (fun x2 => some x2) rng1) fun l4 =>
  ob (olen l4) fun l5 =>
  some l5
theorem c_divisors {ns : List Int} {k : Nat} {m : List D} {n_ : Int} {r_ : List Int} (h : o_divisors n_ = some r_) : Cl ns (k + 1) 2 [D.int n_] m ((eL D.int) r_) m := by
  refine call_wp (f := f_divisors.fn) rfl rfl ?_
  change Wp (PK ns (k + 0)) b_divisors [some (D.int n_), none] m _
  unfold o_divisors at h
  obtain ⟨rng1, hrng1, h⟩ := ob_inv h
  obtain ⟨l4, hl4, h⟩ := ob_inv h
  obtain ⟨l5, hl5, h⟩ := ob_inv h
  cases h
  exact wp_ret (ev_cfltO (d := (eL D.int) rng1) (ea := D.int) (eb := D.int) (ev_bi2 ev_lit (ev_add (ev_var rfl) ev_lit) (b_rng2 hrng1)) itL hl4 (fun x2 b_ hk => by obtain ⟨t3, ht3, hk⟩ := ob_inv hk; cases hk; exact ⟨[some (D.int n_), some (D.int x2)], rfl, (tr_bl (ev_cmp1 (ev_mod (ev_var rfl) (ev_var rfl) ht3) ev_lit (q_eq (ea := D.int) (x := t3) (y := (0 : Int)) (by decide)))), fun _ y_ hk => by cases hk; exact (ev_var rfl)⟩) hl5) rfl
def o_rising (rows_ : List (Int × Int)) : Option (List (Int × Int)) :=
  ob (some ([] : List (Int × Int))) fun told1 =>
  ob (whO (σ := (List (Int × Int) × List (Int × Int))) (fun s2 => some (!s2.1.isEmpty)) (fun s2 =>
    ob (oget s2.1 (0 : Int)) fun g6 =>
    ob (forO (σ := (Int × Int)) (fun s7 x10 =>
    ob (omul x10.1 s7.2) fun t11 =>
    ob (omul s7.1 x10.2) fun t12 =>
    ob (bif (decide (t11 < t12)) then (
    some x10) else (
    some s7)) fun j13 =>
    some j13) (cutT s2.1 (some (1 : Int)) none) g6) fun s8 =>
    ob (oapp s2.2 s8) fun told14 =>
    ob (orem s2.1 s8) fun left15 =>
    some (left15, told14)) WW (rows_, told1)) fun s3 =>
  some s3.2
theorem c_rising {ns : List Int} {k : Nat} {m : List D} {rows_ : List (Int × Int)} {r_ : List (Int × Int)} (h : o_rising rows_ = some r_) : Cl ns (k + 1) 4 [(eL (eP D.int D.int)) rows_] m ((eL (eP D.int D.int)) r_) m := by
  refine call_wp (f := f_rising.fn) rfl rfl ?_
  change Wp (PK ns (k + 0)) b_rising [some ((eL (eP D.int D.int)) rows_), none, none, none, none] m _
  unfold o_rising at h
  refine wp_asg (e1 := [some ((eL (eP D.int D.int)) rows_), some ((eL (eP D.int D.int)) rows_), none, none, none]) (ev_bi1 (ev_var rfl) (b_listL (ea := (eP D.int D.int)))) rfl ?_
  obtain ⟨told1, htold1, h⟩ := ob_inv h
  refine wp_asg (e1 := [some ((eL (eP D.int D.int)) rows_), some ((eL (eP D.int D.int)) rows_), some ((eL (eP D.int D.int)) told1), none, none]) (ev_eq (ea := (eL (eP D.int D.int))) (t := ([] : List (Int × Int))) (ev_ls evs_nil rfl) htold1) rfl ?_
  obtain ⟨s3, hs3, h⟩ := ob_inv h
  refine wp_whl (K := fun s2 q_ => ∃ (g4 g5 : Option D), q_ = .nx [some ((eL (eP D.int D.int)) rows_), some ((eL (eP D.int D.int)) s2.1), some ((eL (eP D.int D.int)) s2.2), g4, g5] m) hs3 ⟨_, _, rfl⟩ ?_ ?_ ?_
  · rintro s2 x_ q_ ⟨g4, g5, rfl⟩ hx_
    refine ⟨_, _, rfl, ?_⟩
    cases hx_
    exact (tr_L (ea := (eP D.int D.int)) (ev_var rfl))
  · rintro s2 s2_ e_ m_ ⟨g4, g5, he_⟩ hb_
    cases he_
    obtain ⟨g6, hg6, hb_⟩ := ob_inv hb_
    refine wp_asg (e1 := [some ((eL (eP D.int D.int)) rows_), some ((eL (eP D.int D.int)) s2.1), some ((eL (eP D.int D.int)) s2.2), some ((eP D.int D.int) g6), g5]) (ev_ixL (ea := (eP D.int D.int)) (ev_var rfl) ev_lit hg6) rfl ?_
    obtain ⟨s8, hs8, hb_⟩ := ob_inv hb_
    refine wp_for (d := (eL (eP D.int D.int)) (cutT s2.1 (some (1 : Int)) none)) (ea := (eP D.int D.int)) (K := fun s7 q_ => ∃ (g9 : Option D), q_ = .nx [some ((eL (eP D.int D.int)) rows_), some ((eL (eP D.int D.int)) s2.1), some ((eL (eP D.int D.int)) s2.2), some ((eP D.int D.int) s7), g9] m) (ev_slL (ea := (eP D.int D.int)) (l := (some (1 : Int))) (h := none) (ev_var rfl) (evs_cons ev_lit evs_nil) evs_nil) itL hs8 ⟨_, rfl⟩ ?_ ?_
    · rintro s7 x10 s2_ q_ ⟨g9, rfl⟩ hb_
      refine ⟨_, _, [some ((eL (eP D.int D.int)) rows_), some ((eL (eP D.int D.int)) s2.1), some ((eL (eP D.int D.int)) s2.2), some ((eP D.int D.int) s7), some ((eP D.int D.int) x10)], rfl, rfl, ?_⟩
      obtain ⟨t11, ht11, hb_⟩ := ob_inv hb_
      obtain ⟨t12, ht12, hb_⟩ := ob_inv hb_
      obtain ⟨j13, hj13, hb_⟩ := ob_inv hb_
      refine wp_ifj (K := fun q_ => q_ = .nx [some ((eL (eP D.int D.int)) rows_), some ((eL (eP D.int D.int)) s2.1), some ((eL (eP D.int D.int)) s2.2), some ((eP D.int D.int) j13), some ((eP D.int D.int) x10)] m) (tr_bl (ev_cmp1 (ev_mul (ev_ix (ev_var rfl) ev_lit rfl) (ev_ix (ev_var rfl) ev_lit rfl) ht11) (ev_mul (ev_ix (ev_var rfl) ev_lit rfl) (ev_ix (ev_var rfl) ev_lit rfl) ht12) q_lt)) ?_ ?_ ?_
      · intro hc_
        replace hj13 := cnT hc_ hj13
        refine wp_asg (e1 := [some ((eL (eP D.int D.int)) rows_), some ((eL (eP D.int D.int)) s2.1), some ((eL (eP D.int D.int)) s2.2), some ((eP D.int D.int) x10), some ((eP D.int D.int) x10)]) (ev_var rfl) rfl ?_
        cases hj13
        exact wp_nil rfl
      · intro hc_
        replace hj13 := cnF hc_ hj13
        cases hj13
        exact wp_nil rfl
      rintro q_ rfl
      change Wp _ _ _ _ _
      cases hb_
      exact wp_nil ⟨_, rfl⟩
    rintro q_ ⟨g9, rfl⟩
    change Wp _ _ _ _ _
    obtain ⟨told14, htold14, hb_⟩ := ob_inv hb_
    refine wp_app (ea := (eP D.int D.int)) (e1 := [some ((eL (eP D.int D.int)) rows_), some ((eL (eP D.int D.int)) s2.1), some ((eL (eP D.int D.int)) told14), some ((eP D.int D.int) s8), g9]) (ev_var rfl) rfl htold14 rfl ?_
    obtain ⟨left15, hleft15, hb_⟩ := ob_inv hb_
    refine wp_rem (ea := (eP D.int D.int)) (e1 := [some ((eL (eP D.int D.int)) rows_), some ((eL (eP D.int D.int)) left15), some ((eL (eP D.int D.int)) told14), some ((eP D.int D.int) s8), g9]) (by decide) (ev_var rfl) rfl hleft15 rfl ?_
    cases hb_
    exact wp_nil ⟨_, _, rfl⟩
  rintro q_ ⟨g4, g5, rfl⟩
  change Wp _ _ _ _ _
  cases h
  exact wp_ret (ev_var rfl) rfl
def o_resolvent (row_ : List Int) : Option (List Int) :=
  ob (o5 row_) fun tu1 =>
  ob (omul (4 : Int) tu1.2.2.1) fun t2 =>
  ob (omul t2 tu1.1) fun t3 =>
  ob (omul tu1.2.2.2.1 tu1.2.2.2.1) fun t4 =>
  ob (omul t4 tu1.1) fun t5 =>
  ob (omul tu1.2.1 tu1.2.1) fun t6 =>
  ob (omul tu1.2.2.2.1 tu1.2.1) fun t7 =>
  ob (omul (4 : Int) tu1.1) fun t8 =>
  some ([((t3 - t5) - t6), (t7 - t8), (-tu1.2.2.1), (1 : Int)] : List Int)
theorem c_resolvent {ns : List Int} {k : Nat} {m : List D} {row_ : List Int} {r_ : List Int} (h : o_resolvent row_ = some r_) : Cl ns (k + 1) 6 [(eV D.int) row_] m ((eV D.int) r_) m := by
  refine call_wp (f := f_resolvent.fn) rfl rfl ?_
  change Wp (PK ns (k + 0)) b_resolvent [some ((eV D.int) row_), none, none, none, none, none] m _
  unfold o_resolvent at h
  obtain ⟨tu1, htu1, h⟩ := ob_inv h
  refine wp_asg (e1 := [some ((eV D.int) row_), some (D.int tu1.1), some (D.int tu1.2.1), some (D.int tu1.2.2.1), some (D.int tu1.2.2.2.1), some (D.int tu1.2.2.2.2)]) (ev_eq' (ea := (eV D.int)) (t := row_) (ev_var rfl) (o5_inv htu1)) rfl ?_
  obtain ⟨t2, ht2, h⟩ := ob_inv h
  obtain ⟨t3, ht3, h⟩ := ob_inv h
  obtain ⟨t4, ht4, h⟩ := ob_inv h
  obtain ⟨t5, ht5, h⟩ := ob_inv h
  obtain ⟨t6, ht6, h⟩ := ob_inv h
  obtain ⟨t7, ht7, h⟩ := ob_inv h
  obtain ⟨t8, ht8, h⟩ := ob_inv h
  cases h
  exact wp_ret (ev_tu (evs_cons (ev_sub (ev_sub (ev_mul (ev_mul ev_lit (ev_var rfl) ht2) (ev_var rfl) ht3) (ev_mul (ev_mul (ev_var rfl) (ev_var rfl) ht4) (ev_var rfl) ht5)) (ev_mul (ev_var rfl) (ev_var rfl) ht6)) (evs_cons (ev_sub (ev_mul (ev_var rfl) (ev_var rfl) ht7) (ev_mul ev_lit (ev_var rfl) ht8)) (evs_cons (ev_neg (ev_var rfl)) (evs_cons ev_lit evs_nil)))) rfl) rfl
def o_third_cubic (cosine_ : (Int × Int)) : Option (List Int) :=
  ob (omul (-(3 : Int)) cosine_.2) fun t1 =>
  ob (omul (4 : Int) cosine_.2) fun t2 =>
  some ([(-cosine_.1), t1, (0 : Int), t2] : List Int)
theorem c_third_cubic {ns : List Int} {k : Nat} {m : List D} {cosine_ : (Int × Int)} {r_ : List Int} (h : o_third_cubic cosine_ = some r_) : Cl ns (k + 1) 8 [(eP D.int D.int) cosine_] m ((eV D.int) r_) m := by
  refine call_wp (f := f_third_cubic.fn) rfl rfl ?_
  change Wp (PK ns (k + 0)) b_third_cubic [some ((eP D.int D.int) cosine_)] m _
  unfold o_third_cubic at h
  obtain ⟨t1, ht1, h⟩ := ob_inv h
  obtain ⟨t2, ht2, h⟩ := ob_inv h
  cases h
  exact wp_ret (ev_tu (evs_cons (ev_neg (ev_ix (ev_var rfl) ev_lit rfl)) (evs_cons (ev_mul (ev_neg ev_lit) (ev_ix (ev_var rfl) ev_lit rfl) ht1) (evs_cons ev_lit (evs_cons (ev_mul ev_lit (ev_ix (ev_var rfl) ev_lit rfl) ht2) evs_nil)))) rfl) rfl
def o__law_common (one_ : Int) (other_ : Int) : Option Int :=
  ob (some (absT one_)) fun one1 =>
  ob (some (absT other_)) fun other2 =>
  ob (whO (σ := (Int × Int)) (fun s3 => some (decide ((0 : Int) < s3.2))) (fun s3 =>
    ob (omod s3.1 s3.2) fun t6 =>
    some (s3.2, t6)) WW (one1, other2)) fun s4 =>
  some s4.1
theorem c__law_common {ns : List Int} {k : Nat} {m : List D} {one_ : Int} {other_ : Int} {r_ : Int} (h : o__law_common one_ other_ = some r_) : Cl ns (k + 1) 15 [D.int one_, D.int other_] m (D.int r_) m := by
  refine call_wp (f := f__law_common.fn) rfl rfl ?_
  change Wp (PK ns (k + 0)) b__law_common [some (D.int one_), some (D.int other_), none] m _
  unfold o__law_common at h
  obtain ⟨one1, hone1, h⟩ := ob_inv h
  obtain ⟨other2, hother2, h⟩ := ob_inv h
  refine wp_asg (e1 := [some (D.int one1), some (D.int other2), none]) (ev_tu (evs_cons (ev_eq (ea := D.int) (t := (absT one_)) (ev_bi1 (ev_var rfl) b_abs) hone1) (evs_cons (ev_eq (ea := D.int) (t := (absT other_)) (ev_bi1 (ev_var rfl) b_abs) hother2) evs_nil)) rfl) rfl ?_
  obtain ⟨s4, hs4, h⟩ := ob_inv h
  refine wp_whl (K := fun s3 q_ => ∃ (g5 : Option D), q_ = .nx [some (D.int s3.1), some (D.int s3.2), g5] m) hs4 ⟨_, rfl⟩ ?_ ?_ ?_
  · rintro s3 x_ q_ ⟨g5, rfl⟩ hx_
    refine ⟨_, _, rfl, ?_⟩
    cases hx_
    exact (tr_bl (ev_cmp1 (ev_var rfl) ev_lit q_gt))
  · rintro s3 s2_ e_ m_ ⟨g5, he_⟩ hb_
    cases he_
    obtain ⟨t6, ht6, hb_⟩ := ob_inv hb_
    refine wp_asg (e1 := [some (D.int s3.1), some (D.int s3.2), some (D.int t6)]) (ev_mod (ev_bi1 (ev_var rfl) b_int) (ev_var rfl) ht6) rfl ?_
    refine wp_asg (e1 := [some (D.int s3.2), some (D.int s3.2), some (D.int t6)]) (ev_var rfl) rfl ?_
    refine wp_asg (e1 := [some (D.int s3.2), some (D.int t6), some (D.int t6)]) (ev_var rfl) rfl ?_
    cases hb_
    exact wp_nil ⟨_, rfl⟩
  rintro q_ ⟨g5, rfl⟩
  change Wp _ _ _ _ _
  cases h
  exact wp_ret (ev_var rfl) rfl
def o__law_times (one_ : List Int) (other_ : List Int) : Option (List Int) :=
  ob (orng1 (((one_.length : Int) + (other_.length : Int)) - (1 : Int))) fun rng1 =>
  ob (olen (rng1.map fun x2 => (0 : Int))) fun l3 =>
  ob (orng1 (one_.length : Int)) fun rng4 =>
  ob (forO (σ := List Int) (fun s5 x9 =>
    ob (orng1 (other_.length : Int)) fun rng10 =>
    ob (forO (σ := List Int) (fun s11 x14 =>
    ob (oget s11 (x9 + x14)) fun g15 =>
    ob (oget one_ x9) fun g16 =>
    ob (oget other_ x14) fun g17 =>
    ob (omul g16 g17) fun t18 =>
    ob (oset s11 (x9 + x14) (g15 + t18)) fun out19 =>
    some out19) rng10 s5) fun s12 =>
    some s12) rng4 l3) fun s6 =>
  some s6
theorem c__law_times {ns : List Int} {k : Nat} {m : List D} {one_ : List Int} {other_ : List Int} {r_ : List Int} (h : o__law_times one_ other_ = some r_) : Cl ns (k + 1) 20 [(eV D.int) one_, (eV D.int) other_] m ((eV D.int) r_) m := by
  refine call_wp (f := f__law_times.fn) rfl rfl ?_
  change Wp (PK ns (k + 0)) b__law_times [some ((eV D.int) one_), some ((eV D.int) other_), none, none, none] m _
  unfold o__law_times at h
  obtain ⟨rng1, hrng1, h⟩ := ob_inv h
  obtain ⟨l3, hl3, h⟩ := ob_inv h
  refine wp_asg (e1 := [some ((eV D.int) one_), some ((eV D.int) other_), some ((eL D.int) l3), none, none]) (ev_cmap (d := (eL D.int) rng1) (ea := D.int) (eb := D.int) (g := fun x2 => (0 : Int)) (ev_bi1 (ev_sub (ev_add (ev_bi1 (ev_var rfl) (b_lenV (ea := D.int))) (ev_bi1 (ev_var rfl) (b_lenV (ea := D.int)))) ev_lit) (b_rng1 hrng1)) itL (fun x2 => ⟨[some ((eV D.int) one_), some ((eV D.int) other_), none, some (D.int x2), none], rfl, ev_lit⟩) hl3) rfl ?_
  obtain ⟨rng4, hrng4, h⟩ := ob_inv h
  obtain ⟨s6, hs6, h⟩ := ob_inv h
  refine wp_for (d := (eL D.int) rng4) (ea := D.int) (K := fun s5 q_ => ∃ (g7 g8 : Option D), q_ = .nx [some ((eV D.int) one_), some ((eV D.int) other_), some ((eL D.int) s5), g7, g8] m) (ev_bi1 (ev_bi1 (ev_var rfl) (b_lenV (ea := D.int))) (b_rng1 hrng4)) itL hs6 ⟨_, _, rfl⟩ ?_ ?_
  · rintro s5 x9 s2_ q_ ⟨g7, g8, rfl⟩ hb_
    refine ⟨_, _, [some ((eV D.int) one_), some ((eV D.int) other_), some ((eL D.int) s5), g7, some (D.int x9)], rfl, rfl, ?_⟩
    obtain ⟨rng10, hrng10, hb_⟩ := ob_inv hb_
    obtain ⟨s12, hs12, hb_⟩ := ob_inv hb_
    refine wp_for (d := (eL D.int) rng10) (ea := D.int) (K := fun s11 q_ => ∃ (g13 : Option D), q_ = .nx [some ((eV D.int) one_), some ((eV D.int) other_), some ((eL D.int) s11), g13, some (D.int x9)] m) (ev_bi1 (ev_bi1 (ev_var rfl) (b_lenV (ea := D.int))) (b_rng1 hrng10)) itL hs12 ⟨_, rfl⟩ ?_ ?_
    · rintro s11 x14 s2_ q_ ⟨g13, rfl⟩ hb_
      refine ⟨_, _, [some ((eV D.int) one_), some ((eV D.int) other_), some ((eL D.int) s11), some (D.int x14), some (D.int x9)], rfl, rfl, ?_⟩
      obtain ⟨g15, hg15, hb_⟩ := ob_inv hb_
      obtain ⟨g16, hg16, hb_⟩ := ob_inv hb_
      obtain ⟨g17, hg17, hb_⟩ := ob_inv hb_
      obtain ⟨t18, ht18, hb_⟩ := ob_inv hb_
      obtain ⟨out19, hout19, hb_⟩ := ob_inv hb_
      refine wp_sto (ea := D.int) (e1 := [some ((eV D.int) one_), some ((eV D.int) other_), some ((eL D.int) out19), some (D.int x14), some (D.int x9)]) (ev_add (ev_ixL (ea := D.int) (ev_var rfl) (ev_add (ev_var rfl) (ev_var rfl)) hg15) (ev_mul (ev_ixV (ea := D.int) (ev_var rfl) (ev_var rfl) hg16) (ev_ixV (ea := D.int) (ev_var rfl) (ev_var rfl) hg17) ht18)) (ev_add (ev_var rfl) (ev_var rfl)) rfl hout19 rfl ?_
      cases hb_
      exact wp_nil ⟨_, rfl⟩
    rintro q_ ⟨g13, rfl⟩
    change Wp _ _ _ _ _
    cases hb_
    exact wp_nil ⟨_, _, rfl⟩
  rintro q_ ⟨g7, g8, rfl⟩
  change Wp _ _ _ _ _
  cases h
  exact wp_ret (ev_bi1 (ev_var rfl) (b_tupL (ea := D.int))) rfl
def o__law_sorted (rows_ : List (Int × Int)) : Option (List (Int × Int)) :=
  ob (some ([] : List (Int × Int))) fun out1 =>
  ob (forO (σ := List (Int × Int)) (fun s2 x6 =>
    ob (orng1 (s2.length : Int)) fun rng7 =>
    ob (flO (fun x8 => ob (oget s2 x8) fun g9 => ob (omul g9.1 x6.2) fun t10 => ob (oget s2 x8) fun g11 => ob (omul x6.1 g11.2) fun t12 => some (decide (t10 < t12))) (fun x8 => some x8) rng7) fun l13 =>
    ob (olen l13) fun l14 =>
    ob (olen ((cutT s2 none (some (l14.length : Int))) ++ ([x6] : List (Int × Int)))) fun cat15 =>
    ob (olen (cat15 ++ (cutT s2 (some (l14.length : Int)) none))) fun cat16 =>
    some cat16) rows_ out1) fun s3 =>
  some s3
theorem c__law_sorted {ns : List Int} {k : Nat} {m : List D} {rows_ : List (Int × Int)} {r_ : List (Int × Int)} (h : o__law_sorted rows_ = some r_) : Cl ns (k + 1) 21 [(eL (eP D.int D.int)) rows_] m ((eL (eP D.int D.int)) r_) m := by
  refine call_wp (f := f__law_sorted.fn) rfl rfl ?_
  change Wp (PK ns (k + 0)) b__law_sorted [some ((eL (eP D.int D.int)) rows_), none, none, none, none] m _
  unfold o__law_sorted at h
  obtain ⟨out1, hout1, h⟩ := ob_inv h
  refine wp_asg (e1 := [some ((eL (eP D.int D.int)) rows_), some ((eL (eP D.int D.int)) out1), none, none, none]) (ev_eq (ea := (eL (eP D.int D.int))) (t := ([] : List (Int × Int))) (ev_ls evs_nil rfl) hout1) rfl ?_
  obtain ⟨s3, hs3, h⟩ := ob_inv h
  refine wp_for (d := (eL (eP D.int D.int)) rows_) (ea := (eP D.int D.int)) (K := fun s2 q_ => ∃ (g4 g5 : Option D), q_ = .nx [some ((eL (eP D.int D.int)) rows_), some ((eL (eP D.int D.int)) s2), g4, g5, none] m) (ev_var rfl) itL hs3 ⟨_, _, rfl⟩ ?_ ?_
  · rintro s2 x6 s2_ q_ ⟨g4, g5, rfl⟩ hb_
    refine ⟨_, _, [some ((eL (eP D.int D.int)) rows_), some ((eL (eP D.int D.int)) s2), some ((eP D.int D.int) x6), g5, none], rfl, rfl, ?_⟩
    obtain ⟨rng7, hrng7, hb_⟩ := ob_inv hb_
    obtain ⟨l13, hl13, hb_⟩ := ob_inv hb_
    obtain ⟨l14, hl14, hb_⟩ := ob_inv hb_
    refine wp_asg (e1 := [some ((eL (eP D.int D.int)) rows_), some ((eL (eP D.int D.int)) s2), some ((eP D.int D.int) x6), some ((eL D.int) l14), none]) (ev_cfltO (d := (eL D.int) rng7) (ea := D.int) (eb := D.int) (ev_bi1 (ev_bi1 (ev_var rfl) (b_lenL (ea := (eP D.int D.int)))) (b_rng1 hrng7)) itL hl13 (fun x8 b_ hk => by obtain ⟨g9, hg9, hk⟩ := ob_inv hk; obtain ⟨t10, ht10, hk⟩ := ob_inv hk; obtain ⟨g11, hg11, hk⟩ := ob_inv hk; obtain ⟨t12, ht12, hk⟩ := ob_inv hk; cases hk; exact ⟨[some ((eL (eP D.int D.int)) rows_), some ((eL (eP D.int D.int)) s2), some ((eP D.int D.int) x6), g5, some (D.int x8)], rfl, (tr_bl (ev_cmp1 (ev_mul (ev_ix (ev_ixL (ea := (eP D.int D.int)) (ev_var rfl) (ev_var rfl) hg9) ev_lit rfl) (ev_ix (ev_var rfl) ev_lit rfl) ht10) (ev_mul (ev_ix (ev_var rfl) ev_lit rfl) (ev_ix (ev_ixL (ea := (eP D.int D.int)) (ev_var rfl) (ev_var rfl) hg11) ev_lit rfl) ht12) q_lt)), fun _ y_ hk => by cases hk; exact (ev_var rfl)⟩) hl14) rfl ?_
    obtain ⟨cat15, hcat15, hb_⟩ := ob_inv hb_
    obtain ⟨cat16, hcat16, hb_⟩ := ob_inv hb_
    refine wp_asg (e1 := [some ((eL (eP D.int D.int)) rows_), some ((eL (eP D.int D.int)) cat16), some ((eP D.int D.int) x6), some ((eL D.int) l14), none]) (ev_catL (ea := (eP D.int D.int)) (ev_catL (ea := (eP D.int D.int)) (ev_slL (ea := (eP D.int D.int)) (l := none) (h := (some (l14.length : Int))) (ev_var rfl) evs_nil (evs_cons (ev_bi1 (ev_var rfl) (b_lenL (ea := D.int))) evs_nil)) (ev_ls (evs_cons (ev_var rfl) evs_nil) rfl) hcat15) (ev_slL (ea := (eP D.int D.int)) (l := (some (l14.length : Int))) (h := none) (ev_var rfl) (evs_cons (ev_bi1 (ev_var rfl) (b_lenL (ea := D.int))) evs_nil) evs_nil) hcat16) rfl ?_
    cases hb_
    exact wp_nil ⟨_, _, rfl⟩
  rintro q_ ⟨g4, g5, rfl⟩
  change Wp _ _ _ _ _
  cases h
  exact wp_ret (ev_var rfl) rfl
def o_worth (row_ : List Int) (place_ : (Int × Int)) : Option (Int × Int) :=
  ob (some ((0 : Int), (1 : Int))) fun told1 =>
  ob (forO (σ := (Int × Int)) (fun s2 x5 =>
    ob (omul s2.1 place_.1) fun t6 =>
    ob (omul x5 s2.2) fun t7 =>
    ob (omul t7 place_.2) fun t8 =>
    ob (omul s2.2 place_.2) fun t9 =>
    ob (o_lowest (t6 + t8) t9) fun lowest10 =>
    some lowest10) row_.reverse told1) fun s3 =>
  some s3
theorem c_worth {ns : List Int} {k : Nat} {m : List D} {row_ : List Int} {place_ : (Int × Int)} {r_ : (Int × Int)} (h : o_worth row_ place_ = some r_) : Cl ns (k + 2) 1 [(eL D.int) row_, (eP D.int D.int) place_] m ((eP D.int D.int) r_) m := by
  refine call_wp (f := f_worth.fn) rfl rfl ?_
  change Wp (PK ns (k + 1)) b_worth [some ((eL D.int) row_), some ((eP D.int D.int) place_), none, none] m _
  unfold o_worth at h
  obtain ⟨told1, htold1, h⟩ := ob_inv h
  refine wp_asg (e1 := [some ((eL D.int) row_), some ((eP D.int D.int) place_), some ((eP D.int D.int) told1), none]) (ev_eq (ea := (eP D.int D.int)) (t := ((0 : Int), (1 : Int))) (ev_tu (evs_cons ev_lit (evs_cons ev_lit evs_nil)) rfl) htold1) rfl ?_
  obtain ⟨s3, hs3, h⟩ := ob_inv h
  refine wp_for (d := (eL D.int) row_.reverse) (ea := D.int) (K := fun s2 q_ => ∃ (g4 : Option D), q_ = .nx [some ((eL D.int) row_), some ((eP D.int D.int) place_), some ((eP D.int D.int) s2), g4] m) (ev_bi1 (ev_var rfl) (b_revL (ea := D.int))) itL hs3 ⟨_, rfl⟩ ?_ ?_
  · rintro s2 x5 s2_ q_ ⟨g4, rfl⟩ hb_
    refine ⟨_, _, [some ((eL D.int) row_), some ((eP D.int D.int) place_), some ((eP D.int D.int) s2), some (D.int x5)], rfl, rfl, ?_⟩
    obtain ⟨t6, ht6, hb_⟩ := ob_inv hb_
    obtain ⟨t7, ht7, hb_⟩ := ob_inv hb_
    obtain ⟨t8, ht8, hb_⟩ := ob_inv hb_
    obtain ⟨t9, ht9, hb_⟩ := ob_inv hb_
    obtain ⟨lowest10, hlowest10, hb_⟩ := ob_inv hb_
    refine wp_asg (e1 := [some ((eL D.int) row_), some ((eP D.int D.int) place_), some ((eP D.int D.int) lowest10), some (D.int x5)]) (ev_cl (c_lowest (k := k) hlowest10) (evs_cons (ev_add (ev_mul (ev_ix (ev_var rfl) ev_lit rfl) (ev_ix (ev_var rfl) ev_lit rfl) ht6) (ev_mul (ev_mul (ev_var rfl) (ev_ix (ev_var rfl) ev_lit rfl) ht7) (ev_ix (ev_var rfl) ev_lit rfl) ht8)) (evs_cons (ev_mul (ev_ix (ev_var rfl) ev_lit rfl) (ev_ix (ev_var rfl) ev_lit rfl) ht9) evs_nil))) rfl ?_
    cases hb_
    exact wp_nil ⟨_, rfl⟩
  rintro q_ ⟨g4, rfl⟩
  change Wp _ _ _ _ _
  cases h
  exact wp_ret (ev_var rfl) rfl
def o_worth_2 (row_ : List Int) (place_ : (Int × Int)) : Option (Int × Int) :=
  ob (some ((0 : Int), (1 : Int))) fun told1 =>
  ob (forO (σ := (Int × Int)) (fun s2 x5 =>
    ob (omul s2.1 place_.1) fun t6 =>
    ob (omul x5 s2.2) fun t7 =>
    ob (omul t7 place_.2) fun t8 =>
    ob (omul s2.2 place_.2) fun t9 =>
    ob (o_lowest (t6 + t8) t9) fun lowest10 =>
    some lowest10) row_.reverse told1) fun s3 =>
  some s3
theorem c_worth_2 {ns : List Int} {k : Nat} {m : List D} {row_ : List Int} {place_ : (Int × Int)} {r_ : (Int × Int)} (h : o_worth_2 row_ place_ = some r_) : Cl ns (k + 2) 1 [(eV D.int) row_, (eP D.int D.int) place_] m ((eP D.int D.int) r_) m := by
  refine call_wp (f := f_worth.fn) rfl rfl ?_
  change Wp (PK ns (k + 1)) b_worth [some ((eV D.int) row_), some ((eP D.int D.int) place_), none, none] m _
  unfold o_worth_2 at h
  obtain ⟨told1, htold1, h⟩ := ob_inv h
  refine wp_asg (e1 := [some ((eV D.int) row_), some ((eP D.int D.int) place_), some ((eP D.int D.int) told1), none]) (ev_eq (ea := (eP D.int D.int)) (t := ((0 : Int), (1 : Int))) (ev_tu (evs_cons ev_lit (evs_cons ev_lit evs_nil)) rfl) htold1) rfl ?_
  obtain ⟨s3, hs3, h⟩ := ob_inv h
  refine wp_for (d := (eL D.int) row_.reverse) (ea := D.int) (K := fun s2 q_ => ∃ (g4 : Option D), q_ = .nx [some ((eV D.int) row_), some ((eP D.int D.int) place_), some ((eP D.int D.int) s2), g4] m) (ev_bi1 (ev_var rfl) (b_revV (ea := D.int))) itL hs3 ⟨_, rfl⟩ ?_ ?_
  · rintro s2 x5 s2_ q_ ⟨g4, rfl⟩ hb_
    refine ⟨_, _, [some ((eV D.int) row_), some ((eP D.int D.int) place_), some ((eP D.int D.int) s2), some (D.int x5)], rfl, rfl, ?_⟩
    obtain ⟨t6, ht6, hb_⟩ := ob_inv hb_
    obtain ⟨t7, ht7, hb_⟩ := ob_inv hb_
    obtain ⟨t8, ht8, hb_⟩ := ob_inv hb_
    obtain ⟨t9, ht9, hb_⟩ := ob_inv hb_
    obtain ⟨lowest10, hlowest10, hb_⟩ := ob_inv hb_
    refine wp_asg (e1 := [some ((eV D.int) row_), some ((eP D.int D.int) place_), some ((eP D.int D.int) lowest10), some (D.int x5)]) (ev_cl (c_lowest (k := k) hlowest10) (evs_cons (ev_add (ev_mul (ev_ix (ev_var rfl) ev_lit rfl) (ev_ix (ev_var rfl) ev_lit rfl) ht6) (ev_mul (ev_mul (ev_var rfl) (ev_ix (ev_var rfl) ev_lit rfl) ht7) (ev_ix (ev_var rfl) ev_lit rfl) ht8)) (evs_cons (ev_mul (ev_ix (ev_var rfl) ev_lit rfl) (ev_ix (ev_var rfl) ev_lit rfl) ht9) evs_nil))) rfl ?_
    cases hb_
    exact wp_nil ⟨_, rfl⟩
  rintro q_ ⟨g4, rfl⟩
  change Wp _ _ _ _ _
  cases h
  exact wp_ret (ev_var rfl) rfl
def o_double_cosine (cosine_ : (Int × Int)) : Option (Int × Int) :=
  ob (omul (2 : Int) cosine_.1) fun t1 =>
  ob (omul t1 cosine_.1) fun t2 =>
  ob (omul cosine_.2 cosine_.2) fun t3 =>
  ob (omul cosine_.2 cosine_.2) fun t4 =>
  ob (o_lowest (t2 - t3) t4) fun lowest5 =>
  some lowest5
theorem c_double_cosine {ns : List Int} {k : Nat} {m : List D} {cosine_ : (Int × Int)} {r_ : (Int × Int)} (h : o_double_cosine cosine_ = some r_) : Cl ns (k + 2) 10 [(eP D.int D.int) cosine_] m ((eP D.int D.int) r_) m := by
  refine call_wp (f := f_double_cosine.fn) rfl rfl ?_
  change Wp (PK ns (k + 1)) b_double_cosine [some ((eP D.int D.int) cosine_)] m _
  unfold o_double_cosine at h
  obtain ⟨t1, ht1, h⟩ := ob_inv h
  obtain ⟨t2, ht2, h⟩ := ob_inv h
  obtain ⟨t3, ht3, h⟩ := ob_inv h
  obtain ⟨t4, ht4, h⟩ := ob_inv h
  obtain ⟨lowest5, hlowest5, h⟩ := ob_inv h
  cases h
  exact wp_ret (ev_cl (c_lowest (k := k) hlowest5) (evs_cons (ev_sub (ev_mul (ev_mul ev_lit (ev_ix (ev_var rfl) ev_lit rfl) ht1) (ev_ix (ev_var rfl) ev_lit rfl) ht2) (ev_mul (ev_ix (ev_var rfl) ev_lit rfl) (ev_ix (ev_var rfl) ev_lit rfl) ht3)) (evs_cons (ev_mul (ev_ix (ev_var rfl) ev_lit rfl) (ev_ix (ev_var rfl) ev_lit rfl) ht4) evs_nil))) rfl
def o_triple_cosine (cosine_ : (Int × Int)) : Option (Int × Int) :=
  ob (omul (4 : Int) cosine_.1) fun t1 =>
  ob (omul t1 cosine_.1) fun t2 =>
  ob (omul t2 cosine_.1) fun t3 =>
  ob (omul (3 : Int) cosine_.1) fun t4 =>
  ob (omul t4 cosine_.2) fun t5 =>
  ob (omul t5 cosine_.2) fun t6 =>
  ob (omul cosine_.2 cosine_.2) fun t7 =>
  ob (omul t7 cosine_.2) fun t8 =>
  ob (o_lowest (t3 - t6) t8) fun lowest9 =>
  some lowest9
theorem c_triple_cosine {ns : List Int} {k : Nat} {m : List D} {cosine_ : (Int × Int)} {r_ : (Int × Int)} (h : o_triple_cosine cosine_ = some r_) : Cl ns (k + 2) 11 [(eP D.int D.int) cosine_] m ((eP D.int D.int) r_) m := by
  refine call_wp (f := f_triple_cosine.fn) rfl rfl ?_
  change Wp (PK ns (k + 1)) b_triple_cosine [some ((eP D.int D.int) cosine_), none, none] m _
  unfold o_triple_cosine at h
  refine wp_asg (e1 := [some ((eP D.int D.int) cosine_), some (D.int cosine_.1), some (D.int cosine_.2)]) (ev_var rfl) rfl ?_
  obtain ⟨t1, ht1, h⟩ := ob_inv h
  obtain ⟨t2, ht2, h⟩ := ob_inv h
  obtain ⟨t3, ht3, h⟩ := ob_inv h
  obtain ⟨t4, ht4, h⟩ := ob_inv h
  obtain ⟨t5, ht5, h⟩ := ob_inv h
  obtain ⟨t6, ht6, h⟩ := ob_inv h
  obtain ⟨t7, ht7, h⟩ := ob_inv h
  obtain ⟨t8, ht8, h⟩ := ob_inv h
  obtain ⟨lowest9, hlowest9, h⟩ := ob_inv h
  cases h
  exact wp_ret (ev_cl (c_lowest (k := k) hlowest9) (evs_cons (ev_sub (ev_mul (ev_mul (ev_mul ev_lit (ev_var rfl) ht1) (ev_var rfl) ht2) (ev_var rfl) ht3) (ev_mul (ev_mul (ev_mul ev_lit (ev_var rfl) ht4) (ev_var rfl) ht5) (ev_var rfl) ht6)) (evs_cons (ev_mul (ev_mul (ev_var rfl) (ev_var rfl) ht7) (ev_var rfl) ht8) evs_nil))) rfl
def o__law_lowest (above_ : Int) (below_ : Int) : Option (Int × Int) :=
  ob (o__law_common above_ below_) fun common1 =>
  ob (some (bif (decide (below_ < (0 : Int))) then (-(1 : Int)) else (1 : Int))) fun sign2 =>
  ob (omul sign2 above_) fun t3 =>
  ob (odiv t3 common1) fun t4 =>
  ob (omul sign2 below_) fun t5 =>
  ob (odiv t5 common1) fun t6 =>
  some (t4, t6)
theorem c__law_lowest {ns : List Int} {k : Nat} {m : List D} {above_ : Int} {below_ : Int} {r_ : (Int × Int)} (h : o__law_lowest above_ below_ = some r_) : Cl ns (k + 2) 16 [D.int above_, D.int below_] m ((eP D.int D.int) r_) m := by
  refine call_wp (f := f__law_lowest.fn) rfl rfl ?_
  change Wp (PK ns (k + 1)) b__law_lowest [some (D.int above_), some (D.int below_), none, none] m _
  unfold o__law_lowest at h
  obtain ⟨common1, hcommon1, h⟩ := ob_inv h
  refine wp_asg (e1 := [some (D.int above_), some (D.int below_), some (D.int common1), none]) (ev_cl (c__law_common (k := k) hcommon1) (evs_cons (ev_var rfl) (evs_cons (ev_var rfl) evs_nil))) rfl ?_
  obtain ⟨sign2, hsign2, h⟩ := ob_inv h
  refine wp_asg (e1 := [some (D.int above_), some (D.int below_), some (D.int common1), some (D.int sign2)]) (ev_eq (ea := D.int) (t := (bif (decide (below_ < (0 : Int))) then (-(1 : Int)) else (1 : Int))) (ev_ite (f := fun b => D.int (bif b then (-(1 : Int)) else (1 : Int))) (g := fun _ => m) (tr_bl (ev_cmp1 (ev_var rfl) ev_lit q_lt)) (fun _ => (ev_neg ev_lit)) (fun _ => ev_lit)) hsign2) rfl ?_
  obtain ⟨t3, ht3, h⟩ := ob_inv h
  obtain ⟨t4, ht4, h⟩ := ob_inv h
  obtain ⟨t5, ht5, h⟩ := ob_inv h
  obtain ⟨t6, ht6, h⟩ := ob_inv h
  cases h
  exact wp_ret (ev_tu (evs_cons (ev_div (ev_mul (ev_var rfl) (ev_var rfl) ht3) (ev_var rfl) ht4) (evs_cons (ev_div (ev_mul (ev_var rfl) (ev_var rfl) ht5) (ev_var rfl) ht6) evs_nil)) rfl) rfl
def o_rational_roots (row_ : List Int) : Option (List (Int × Int)) :=
  ob (some ([] : List (Int × Int))) fun told1 =>
  ob (oget row_ (0 : Int)) fun g2 =>
  ob (bif (decide (g2 = (0 : Int))) then (
    ob (oapp told1 ((0 : Int), (1 : Int))) fun told4 =>
    ob (whO (σ := List Int) (fun s5 => ob (oget s5 (0 : Int)) fun g7 => some (decide (g7 = (0 : Int)))) (fun s5 =>
    ob (some (cutT s5 (some (1 : Int)) none)) fun numbers8 =>
    some numbers8) WW row_) fun s6 =>
    some (s6, told4)) else (
    some (row_, told1))) fun j3 =>
  ob (oget j3.1 (0 : Int)) fun g9 =>
  ob (o_divisors (absT g9)) fun diviso10 =>
  ob (forO (σ := List (Int × Int)) (fun s11 x17 =>
    ob (oget j3.1 (-(1 : Int))) fun g18 =>
    ob (o_divisors (absT g18)) fun diviso19 =>
    ob (forO (σ := List (Int × Int)) (fun s20 x25 =>
    ob (forO (σ := List (Int × Int)) (fun s26 x30 =>
    ob (omul x30 x17) fun t31 =>
    ob (o_lowest t31 x25) fun lowest32 =>
    ob (bif (!(memT lowest32 s26)) then (ob (o_worth j3.1 lowest32) fun worth33 => some (decide (worth33.1 = (0 : Int)))) else (some false)) fun c34 =>
    ob (bif c34 then (
    ob (oapp s26 lowest32) fun told36 =>
    some told36) else (
    some s26)) fun j35 =>
    some j35) ([(1 : Int), (-(1 : Int))]) s20) fun s27 =>
    some s27) diviso19 s11) fun s21 =>
    some s21) diviso10 j3.2) fun s12 =>
  ob (o_rising s12) fun rising37 =>
  some rising37
theorem c_rational_roots {ns : List Int} {k : Nat} {m : List D} {row_ : List Int} {r_ : List (Int × Int)} (h : o_rational_roots row_ = some r_) : Cl ns (k + 3) 3 [(eV D.int) row_] m ((eL (eP D.int D.int)) r_) m := by
  refine call_wp (f := f_rational_roots.fn) rfl rfl ?_
  change Wp (PK ns (k + 2)) b_rational_roots [some ((eV D.int) row_), none, none, none, none, none, none] m _
  unfold o_rational_roots at h
  refine wp_asg (e1 := [some ((eV D.int) row_), some ((eL D.int) row_), none, none, none, none, none]) (ev_bi1 (ev_var rfl) (b_listV (ea := D.int))) rfl ?_
  obtain ⟨told1, htold1, h⟩ := ob_inv h
  refine wp_asg (e1 := [some ((eV D.int) row_), some ((eL D.int) row_), some ((eL (eP D.int D.int)) told1), none, none, none, none]) (ev_eq (ea := (eL (eP D.int D.int))) (t := ([] : List (Int × Int))) (ev_ls evs_nil rfl) htold1) rfl ?_
  obtain ⟨g2, hg2, h⟩ := ob_inv h
  obtain ⟨j3, hj3, h⟩ := ob_inv h
  refine wp_ifj (K := fun q_ => q_ = .nx [some ((eV D.int) row_), some ((eL D.int) j3.1), some ((eL (eP D.int D.int)) j3.2), none, none, none, none] m) (tr_bl (ev_cmp1 (ev_ixL (ea := D.int) (ev_var rfl) ev_lit hg2) ev_lit (q_eq (ea := D.int) (x := g2) (y := (0 : Int)) (by decide)))) ?_ ?_ ?_
  · intro hc_
    replace hj3 := cnT hc_ hj3
    obtain ⟨told4, htold4, hj3⟩ := ob_inv hj3
    refine wp_app (ea := (eP D.int D.int)) (e1 := [some ((eV D.int) row_), some ((eL D.int) row_), some ((eL (eP D.int D.int)) told4), none, none, none, none]) (ev_tu (evs_cons ev_lit (evs_cons ev_lit evs_nil)) rfl) rfl htold4 rfl ?_
    obtain ⟨s6, hs6, hj3⟩ := ob_inv hj3
    refine wp_whl (K := fun s5 q_ => q_ = .nx [some ((eV D.int) row_), some ((eL D.int) s5), some ((eL (eP D.int D.int)) told4), none, none, none, none] m) hs6 rfl ?_ ?_ ?_
    · rintro s5 x_ q_ rfl hx_
      refine ⟨_, _, rfl, ?_⟩
      obtain ⟨g7, hg7, hx_⟩ := ob_inv hx_
      cases hx_
      exact (tr_bl (ev_cmp1 (ev_ixL (ea := D.int) (ev_var rfl) ev_lit hg7) ev_lit (q_eq (ea := D.int) (x := g7) (y := (0 : Int)) (by decide))))
    · rintro s5 s2_ e_ m_ he_ hb_
      cases he_
      obtain ⟨numbers8, hnumbers8, hb_⟩ := ob_inv hb_
      refine wp_asg (e1 := [some ((eV D.int) row_), some ((eL D.int) numbers8), some ((eL (eP D.int D.int)) told4), none, none, none, none]) (ev_eq (ea := (eL D.int)) (t := (cutT s5 (some (1 : Int)) none)) (ev_slL (ea := D.int) (l := (some (1 : Int))) (h := none) (ev_var rfl) (evs_cons ev_lit evs_nil) evs_nil) hnumbers8) rfl ?_
      cases hb_
      exact wp_nil rfl
    rintro q_ rfl
    change Wp _ _ _ _ _
    cases hj3
    exact wp_nil rfl
  · intro hc_
    replace hj3 := cnF hc_ hj3
    cases hj3
    exact wp_nil rfl
  rintro q_ rfl
  change Wp _ _ _ _ _
  obtain ⟨g9, hg9, h⟩ := ob_inv h
  obtain ⟨diviso10, hdiviso10, h⟩ := ob_inv h
  obtain ⟨s12, hs12, h⟩ := ob_inv h
  refine wp_for (d := (eL D.int) diviso10) (ea := D.int) (K := fun s11 q_ => ∃ (g13 g14 g15 g16 : Option D), q_ = .nx [some ((eV D.int) row_), some ((eL D.int) j3.1), some ((eL (eP D.int D.int)) s11), g13, g14, g15, g16] m) (ev_cl (c_divisors (k := k + 1) hdiviso10) (evs_cons (ev_bi1 (ev_ixL (ea := D.int) (ev_var rfl) ev_lit hg9) b_abs) evs_nil)) itL hs12 ⟨_, _, _, _, rfl⟩ ?_ ?_
  · rintro s11 x17 s2_ q_ ⟨g13, g14, g15, g16, rfl⟩ hb_
    refine ⟨_, _, [some ((eV D.int) row_), some ((eL D.int) j3.1), some ((eL (eP D.int D.int)) s11), some (D.int x17), g14, g15, g16], rfl, rfl, ?_⟩
    obtain ⟨g18, hg18, hb_⟩ := ob_inv hb_
    obtain ⟨diviso19, hdiviso19, hb_⟩ := ob_inv hb_
    obtain ⟨s21, hs21, hb_⟩ := ob_inv hb_
    refine wp_for (d := (eL D.int) diviso19) (ea := D.int) (K := fun s20 q_ => ∃ (g22 g23 g24 : Option D), q_ = .nx [some ((eV D.int) row_), some ((eL D.int) j3.1), some ((eL (eP D.int D.int)) s20), some (D.int x17), g22, g23, g24] m) (ev_cl (c_divisors (k := k + 1) hdiviso19) (evs_cons (ev_bi1 (ev_ixL (ea := D.int) (ev_var rfl) (ev_neg ev_lit) hg18) b_abs) evs_nil)) itL hs21 ⟨_, _, _, rfl⟩ ?_ ?_
    · rintro s20 x25 s2_ q_ ⟨g22, g23, g24, rfl⟩ hb_
      refine ⟨_, _, [some ((eV D.int) row_), some ((eL D.int) j3.1), some ((eL (eP D.int D.int)) s20), some (D.int x17), some (D.int x25), g23, g24], rfl, rfl, ?_⟩
      obtain ⟨s27, hs27, hb_⟩ := ob_inv hb_
      refine wp_for (d := (eV D.int) ([(1 : Int), (-(1 : Int))])) (ea := D.int) (K := fun s26 q_ => ∃ (g28 g29 : Option D), q_ = .nx [some ((eV D.int) row_), some ((eL D.int) j3.1), some ((eL (eP D.int D.int)) s26), some (D.int x17), some (D.int x25), g28, g29] m) (ev_tu (evs_cons ev_lit (evs_cons (ev_neg ev_lit) evs_nil)) rfl) itV hs27 ⟨_, _, rfl⟩ ?_ ?_
      · rintro s26 x30 s2_ q_ ⟨g28, g29, rfl⟩ hb_
        refine ⟨_, _, [some ((eV D.int) row_), some ((eL D.int) j3.1), some ((eL (eP D.int D.int)) s26), some (D.int x17), some (D.int x25), some (D.int x30), g29], rfl, rfl, ?_⟩
        obtain ⟨t31, ht31, hb_⟩ := ob_inv hb_
        obtain ⟨lowest32, hlowest32, hb_⟩ := ob_inv hb_
        refine wp_asg (e1 := [some ((eV D.int) row_), some ((eL D.int) j3.1), some ((eL (eP D.int D.int)) s26), some (D.int x17), some (D.int x25), some (D.int x30), some ((eP D.int D.int) lowest32)]) (ev_cl (c_lowest (k := k + 1) hlowest32) (evs_cons (ev_mul (ev_var rfl) (ev_var rfl) ht31) (evs_cons (ev_var rfl) evs_nil))) rfl ?_
        obtain ⟨c34, hc34, hb_⟩ := ob_inv hb_
        obtain ⟨j35, hj35, hb_⟩ := ob_inv hb_
        refine wp_ifj (K := fun q_ => q_ = .nx [some ((eV D.int) row_), some ((eL D.int) j3.1), some ((eL (eP D.int D.int)) j35), some (D.int x17), some (D.int x25), some (D.int x30), some ((eP D.int D.int) lowest32)] m) (tr_andO hc34 (tr_bl (ev_cmp1 (ev_var rfl) (ev_var rfl) (q_nmem (ea := (eP D.int D.int)) (x := lowest32) (ys := s26) (by decide)))) (fun hk => by obtain ⟨worth33, hworth33, hk⟩ := ob_inv hk; cases hk; exact (tr_and1 (tr_bl (ev_cmp1 (ev_ix (ev_cl (c_worth (k := k) hworth33) (evs_cons (ev_var rfl) (evs_cons (ev_var rfl) evs_nil))) ev_lit rfl) ev_lit (q_eq (ea := D.int) (x := worth33.1) (y := (0 : Int)) (by decide))))))) ?_ ?_ ?_
        · intro hc_
          replace hj35 := cnT hc_ hj35
          obtain ⟨told36, htold36, hj35⟩ := ob_inv hj35
          refine wp_app (ea := (eP D.int D.int)) (e1 := [some ((eV D.int) row_), some ((eL D.int) j3.1), some ((eL (eP D.int D.int)) told36), some (D.int x17), some (D.int x25), some (D.int x30), some ((eP D.int D.int) lowest32)]) (ev_var rfl) rfl htold36 rfl ?_
          cases hj35
          exact wp_nil rfl
        · intro hc_
          replace hj35 := cnF hc_ hj35
          cases hj35
          exact wp_nil rfl
        rintro q_ rfl
        change Wp _ _ _ _ _
        cases hb_
        exact wp_nil ⟨_, _, rfl⟩
      rintro q_ ⟨g28, g29, rfl⟩
      change Wp _ _ _ _ _
      cases hb_
      exact wp_nil ⟨_, _, _, rfl⟩
    rintro q_ ⟨g22, g23, g24, rfl⟩
    change Wp _ _ _ _ _
    cases hb_
    exact wp_nil ⟨_, _, _, _, rfl⟩
  rintro q_ ⟨g13, g14, g15, g16, rfl⟩
  change Wp _ _ _ _ _
  obtain ⟨rising37, hrising37, h⟩ := ob_inv h
  cases h
  exact wp_ret (ev_cl (c_rising (k := k + 1) hrising37) (evs_cons (ev_var rfl) evs_nil)) rfl
def o__law_plus (one_ : (Int × Int)) (other_ : (Int × Int)) : Option (Int × Int) :=
  ob (omul one_.1 other_.2) fun t1 =>
  ob (omul other_.1 one_.2) fun t2 =>
  ob (omul one_.2 other_.2) fun t3 =>
  ob (o__law_lowest (t1 + t2) t3) fun lowest4 =>
  some lowest4
theorem c__law_plus {ns : List Int} {k : Nat} {m : List D} {one_ : (Int × Int)} {other_ : (Int × Int)} {r_ : (Int × Int)} (h : o__law_plus one_ other_ = some r_) : Cl ns (k + 3) 17 [(eP D.int D.int) one_, (eP D.int D.int) other_] m ((eP D.int D.int) r_) m := by
  refine call_wp (f := f__law_plus.fn) rfl rfl ?_
  change Wp (PK ns (k + 2)) b__law_plus [some ((eP D.int D.int) one_), some ((eP D.int D.int) other_)] m _
  unfold o__law_plus at h
  obtain ⟨t1, ht1, h⟩ := ob_inv h
  obtain ⟨t2, ht2, h⟩ := ob_inv h
  obtain ⟨t3, ht3, h⟩ := ob_inv h
  obtain ⟨lowest4, hlowest4, h⟩ := ob_inv h
  cases h
  exact wp_ret (ev_cl (c__law_lowest (k := k) hlowest4) (evs_cons (ev_add (ev_mul (ev_ix (ev_var rfl) ev_lit rfl) (ev_ix (ev_var rfl) ev_lit rfl) ht1) (ev_mul (ev_ix (ev_var rfl) ev_lit rfl) (ev_ix (ev_var rfl) ev_lit rfl) ht2)) (evs_cons (ev_mul (ev_ix (ev_var rfl) ev_lit rfl) (ev_ix (ev_var rfl) ev_lit rfl) ht3) evs_nil))) rfl
def o__law_product (one_ : (Int × Int)) (other_ : (Int × Int)) : Option (Int × Int) :=
  ob (omul one_.1 other_.1) fun t1 =>
  ob (omul one_.2 other_.2) fun t2 =>
  ob (o__law_lowest t1 t2) fun lowest3 =>
  some lowest3
theorem c__law_product {ns : List Int} {k : Nat} {m : List D} {one_ : (Int × Int)} {other_ : (Int × Int)} {r_ : (Int × Int)} (h : o__law_product one_ other_ = some r_) : Cl ns (k + 3) 18 [(eP D.int D.int) one_, (eP D.int D.int) other_] m ((eP D.int D.int) r_) m := by
  refine call_wp (f := f__law_product.fn) rfl rfl ?_
  change Wp (PK ns (k + 2)) b__law_product [some ((eP D.int D.int) one_), some ((eP D.int D.int) other_)] m _
  unfold o__law_product at h
  obtain ⟨t1, ht1, h⟩ := ob_inv h
  obtain ⟨t2, ht2, h⟩ := ob_inv h
  obtain ⟨lowest3, hlowest3, h⟩ := ob_inv h
  cases h
  exact wp_ret (ev_cl (c__law_lowest (k := k) hlowest3) (evs_cons (ev_mul (ev_ix (ev_var rfl) ev_lit rfl) (ev_ix (ev_var rfl) ev_lit rfl) ht1) (evs_cons (ev_mul (ev_ix (ev_var rfl) ev_lit rfl) (ev_ix (ev_var rfl) ev_lit rfl) ht2) evs_nil))) rfl
def o_is_drawn_cubic (row_ : List Int) : Option Bool :=
  ob (o_rational_roots row_) fun ration1 =>
  some (decide ((0 : Int) < (ration1.length : Int)))
theorem c_is_drawn_cubic {ns : List Int} {k : Nat} {m : List D} {row_ : List Int} {r_ : Bool} (h : o_is_drawn_cubic row_ = some r_) : Cl ns (k + 4) 5 [(eV D.int) row_] m (D.bl r_) m := by
  refine call_wp (f := f_is_drawn_cubic.fn) rfl rfl ?_
  change Wp (PK ns (k + 3)) b_is_drawn_cubic [some ((eV D.int) row_)] m _
  unfold o_is_drawn_cubic at h
  obtain ⟨ration1, hration1, h⟩ := ob_inv h
  cases h
  exact wp_ret (ev_cmp1 (ev_bi1 (ev_cl (c_rational_roots (k := k) hration1) (evs_cons (ev_var rfl) evs_nil)) (b_lenL (ea := (eP D.int D.int)))) ev_lit q_gt) rfl
def o_is_drawn_quartic (row_ : List Int) : Option Bool :=
  ob (o_resolvent row_) fun resolv1 =>
  ob (o_rational_roots resolv1) fun ration2 =>
  some (decide ((0 : Int) < (ration2.length : Int)))
theorem c_is_drawn_quartic {ns : List Int} {k : Nat} {m : List D} {row_ : List Int} {r_ : Bool} (h : o_is_drawn_quartic row_ = some r_) : Cl ns (k + 4) 7 [(eV D.int) row_] m (D.bl r_) m := by
  refine call_wp (f := f_is_drawn_quartic.fn) rfl rfl ?_
  change Wp (PK ns (k + 3)) b_is_drawn_quartic [some ((eV D.int) row_)] m _
  unfold o_is_drawn_quartic at h
  obtain ⟨resolv1, hresolv1, h⟩ := ob_inv h
  obtain ⟨ration2, hration2, h⟩ := ob_inv h
  cases h
  exact wp_ret (ev_cmp1 (ev_bi1 (ev_cl (c_rational_roots (k := k) hration2) (evs_cons (ev_cl (c_resolvent (k := k + 2) hresolv1) (evs_cons (ev_var rfl) evs_nil)) evs_nil)) (b_lenL (ea := (eP D.int D.int)))) ev_lit q_gt) rfl
def o__law_worth (row_ : List Int) (place_ : (Int × Int)) : Option (Int × Int) :=
  ob (some ((0 : Int), (1 : Int))) fun total1 =>
  ob (some ((1 : Int), (1 : Int))) fun power2 =>
  ob (forO (σ := ((Int × Int) × (Int × Int))) (fun s3 x6 =>
    ob (o__law_product (x6, (1 : Int)) s3.2) fun produc7 =>
    ob (o__law_plus s3.1 produc7) fun plus8 =>
    ob (o__law_product s3.2 place_) fun produc9 =>
    some (plus8, produc9)) row_ (total1, power2)) fun s4 =>
  some s4.1
theorem c__law_worth {ns : List Int} {k : Nat} {m : List D} {row_ : List Int} {place_ : (Int × Int)} {r_ : (Int × Int)} (h : o__law_worth row_ place_ = some r_) : Cl ns (k + 4) 19 [(eV D.int) row_, (eP D.int D.int) place_] m ((eP D.int D.int) r_) m := by
  refine call_wp (f := f__law_worth.fn) rfl rfl ?_
  change Wp (PK ns (k + 3)) b__law_worth [some ((eV D.int) row_), some ((eP D.int D.int) place_), none, none, none] m _
  unfold o__law_worth at h
  obtain ⟨total1, htotal1, h⟩ := ob_inv h
  obtain ⟨power2, hpower2, h⟩ := ob_inv h
  refine wp_asg (e1 := [some ((eV D.int) row_), some ((eP D.int D.int) place_), some ((eP D.int D.int) total1), some ((eP D.int D.int) power2), none]) (ev_tu (evs_cons (ev_eq (ea := (eP D.int D.int)) (t := ((0 : Int), (1 : Int))) (ev_tu (evs_cons ev_lit (evs_cons ev_lit evs_nil)) rfl) htotal1) (evs_cons (ev_eq (ea := (eP D.int D.int)) (t := ((1 : Int), (1 : Int))) (ev_tu (evs_cons ev_lit (evs_cons ev_lit evs_nil)) rfl) hpower2) evs_nil)) rfl) rfl ?_
  obtain ⟨s4, hs4, h⟩ := ob_inv h
  refine wp_for (d := (eV D.int) row_) (ea := D.int) (K := fun s3 q_ => ∃ (g5 : Option D), q_ = .nx [some ((eV D.int) row_), some ((eP D.int D.int) place_), some ((eP D.int D.int) s3.1), some ((eP D.int D.int) s3.2), g5] m) (ev_var rfl) itV hs4 ⟨_, rfl⟩ ?_ ?_
  · rintro s3 x6 s2_ q_ ⟨g5, rfl⟩ hb_
    refine ⟨_, _, [some ((eV D.int) row_), some ((eP D.int D.int) place_), some ((eP D.int D.int) s3.1), some ((eP D.int D.int) s3.2), some (D.int x6)], rfl, rfl, ?_⟩
    obtain ⟨produc7, hproduc7, hb_⟩ := ob_inv hb_
    obtain ⟨plus8, hplus8, hb_⟩ := ob_inv hb_
    refine wp_asg (e1 := [some ((eV D.int) row_), some ((eP D.int D.int) place_), some ((eP D.int D.int) plus8), some ((eP D.int D.int) s3.2), some (D.int x6)]) (ev_cl (c__law_plus (k := k) hplus8) (evs_cons (ev_var rfl) (evs_cons (ev_cl (c__law_product (k := k) hproduc7) (evs_cons (ev_tu (evs_cons (ev_var rfl) (evs_cons ev_lit evs_nil)) rfl) (evs_cons (ev_var rfl) evs_nil))) evs_nil))) rfl ?_
    obtain ⟨produc9, hproduc9, hb_⟩ := ob_inv hb_
    refine wp_asg (e1 := [some ((eV D.int) row_), some ((eP D.int D.int) place_), some ((eP D.int D.int) plus8), some ((eP D.int D.int) produc9), some (D.int x6)]) (ev_cl (c__law_product (k := k) hproduc9) (evs_cons (ev_var rfl) (evs_cons (ev_var rfl) evs_nil))) rfl ?_
    cases hb_
    exact wp_nil ⟨_, rfl⟩
  rintro q_ ⟨g5, rfl⟩
  change Wp _ _ _ _ _
  cases h
  exact wp_ret (ev_var rfl) rfl
def o_can_third (cosine_ : (Int × Int)) : Option Bool :=
  ob (o_third_cubic cosine_) fun third_1 =>
  ob (o_is_drawn_cubic third_1) fun is_dra2 =>
  some is_dra2
theorem c_can_third {ns : List Int} {k : Nat} {m : List D} {cosine_ : (Int × Int)} {r_ : Bool} (h : o_can_third cosine_ = some r_) : Cl ns (k + 5) 9 [(eP D.int D.int) cosine_] m (D.bl r_) m := by
  refine call_wp (f := f_can_third.fn) rfl rfl ?_
  change Wp (PK ns (k + 4)) b_can_third [some ((eP D.int D.int) cosine_)] m _
  unfold o_can_third at h
  obtain ⟨third_1, hthird_1, h⟩ := ob_inv h
  obtain ⟨is_dra2, his_dra2, h⟩ := ob_inv h
  cases h
  exact wp_ret (ev_cl (c_is_drawn_cubic (k := k) his_dra2) (evs_cons (ev_cl (c_third_cubic (k := k + 3) hthird_1) (evs_cons (ev_var rfl) evs_nil)) evs_nil)) rfl
def o__law_roots (row_ : List Int) : Option (List (Int × Int)) :=
  ob (olen ((row_.filter fun x1 => (!(decide (x1 = (0 : Int))))).map fun x1 => x1)) fun l2 =>
  ob (oget l2 (0 : Int)) fun g3 =>
  ob (oget row_ (0 : Int)) fun g4 =>
  ob (some (bif (decide (g4 = (0 : Int))) then ([((0 : Int), (1 : Int))] : List (Int × Int)) else ([] : List (Int × Int)))) fun out5 =>
  ob (orng2 (1 : Int) ((absT g3) + (1 : Int))) fun rng6 =>
  ob (flO (fun x7 => ob (odiv g3 x7) fun t8 => ob (omul t8 x7) fun t9 => some (decide (t9 = g3))) (fun x7 => some x7) rng6) fun l10 =>
  ob (olen l10) fun l11 =>
  ob (forO (σ := List (Int × Int)) (fun s12 x17 =>
    ob (oget row_ ((row_.length : Int) - (1 : Int))) fun g18 =>
    ob (orng2 (1 : Int) ((absT g18) + (1 : Int))) fun rng19 =>
    ob (flO (fun x20 => ob (oget row_ ((row_.length : Int) - (1 : Int))) fun g21 => ob (odiv g21 x20) fun t22 => ob (omul t22 x20) fun t23 => ob (oget row_ ((row_.length : Int) - (1 : Int))) fun g24 => some (decide (t23 = g24))) (fun x20 => some x20) rng19) fun l25 =>
    ob (olen l25) fun l26 =>
    ob (forO (σ := List (Int × Int)) (fun s27 x31 =>
    ob (o__law_lowest x17 x31) fun lowest32 =>
    ob (o__law_lowest (-x17) x31) fun lowest33 =>
    ob (forO (σ := List (Int × Int)) (fun s34 x37 =>
    ob (bif (!(memT x37 s34)) then (ob (o__law_worth row_ x37) fun worth38 => some (decide (worth38 = ((0 : Int), (1 : Int))))) else (some false)) fun c39 =>
    ob (orep ([x37] : List (Int × Int)) (b2i c39)) fun rep40 =>
    ob (olen (s34 ++ rep40)) fun cat41 =>
    some cat41) ([lowest32, lowest33]) s27) fun s35 =>
    some s35) l26 s12) fun s28 =>
    some s28) l11 out5) fun s13 =>
  ob (o__law_sorted s13) fun sorted42 =>
  some sorted42
theorem c__law_roots {ns : List Int} {k : Nat} {m : List D} {row_ : List Int} {r_ : List (Int × Int)} (h : o__law_roots row_ = some r_) : Cl ns (k + 5) 22 [(eV D.int) row_] m ((eL (eP D.int D.int)) r_) m := by
  refine call_wp (f := f__law_roots.fn) rfl rfl ?_
  change Wp (PK ns (k + 4)) b__law_roots [some ((eV D.int) row_), none, none, none, none, none, none] m _
  unfold o__law_roots at h
  obtain ⟨l2, hl2, h⟩ := ob_inv h
  obtain ⟨g3, hg3, h⟩ := ob_inv h
  refine wp_asg (e1 := [some ((eV D.int) row_), some (D.int g3), none, none, none, none, none]) (ev_ixL (ea := D.int) (ev_cflt (d := (eV D.int) row_) (ea := D.int) (eb := D.int) (p := fun x1 => (!(decide (x1 = (0 : Int))))) (g := fun x1 => x1) (ev_var rfl) itV (fun x1 => ⟨[some ((eV D.int) row_), none, some (D.int x1), none, none, none, none], rfl, (tr_bl (ev_cmp1 (ev_var rfl) ev_lit (q_ne (ea := D.int) (x := x1) (y := (0 : Int)) (by decide)))), (ev_var rfl)⟩) hl2) ev_lit hg3) rfl ?_
  obtain ⟨g4, hg4, h⟩ := ob_inv h
  obtain ⟨out5, hout5, h⟩ := ob_inv h
  refine wp_asg (e1 := [some ((eV D.int) row_), some (D.int g3), none, some ((eL (eP D.int D.int)) out5), none, none, none]) (ev_eq (ea := (eL (eP D.int D.int))) (t := (bif (decide (g4 = (0 : Int))) then ([((0 : Int), (1 : Int))] : List (Int × Int)) else ([] : List (Int × Int)))) (ev_ite (f := fun b => (eL (eP D.int D.int)) (bif b then ([((0 : Int), (1 : Int))] : List (Int × Int)) else ([] : List (Int × Int)))) (g := fun _ => m) (tr_bl (ev_cmp1 (ev_ixV (ea := D.int) (ev_var rfl) ev_lit hg4) ev_lit (q_eq (ea := D.int) (x := g4) (y := (0 : Int)) (by decide)))) (fun _ => (ev_ls (evs_cons (ev_tu (evs_cons ev_lit (evs_cons ev_lit evs_nil)) rfl) evs_nil) rfl)) (fun _ => (ev_ls evs_nil rfl))) hout5) rfl ?_
  obtain ⟨rng6, hrng6, h⟩ := ob_inv h
  obtain ⟨l10, hl10, h⟩ := ob_inv h
  obtain ⟨l11, hl11, h⟩ := ob_inv h
  obtain ⟨s13, hs13, h⟩ := ob_inv h
  refine wp_for (d := (eL D.int) l11) (ea := D.int) (K := fun s12 q_ => ∃ (g14 g15 g16 : Option D), q_ = .nx [some ((eV D.int) row_), some (D.int g3), g14, some ((eL (eP D.int D.int)) s12), g15, none, g16] m) (ev_cfltO (d := (eL D.int) rng6) (ea := D.int) (eb := D.int) (ev_bi2 ev_lit (ev_add (ev_bi1 (ev_var rfl) b_abs) ev_lit) (b_rng2 hrng6)) itL hl10 (fun x7 b_ hk => by obtain ⟨t8, ht8, hk⟩ := ob_inv hk; obtain ⟨t9, ht9, hk⟩ := ob_inv hk; cases hk; exact ⟨[some ((eV D.int) row_), some (D.int g3), none, some ((eL (eP D.int D.int)) out5), none, some (D.int x7), none], rfl, (tr_bl (ev_cmp1 (ev_mul (ev_div (ev_var rfl) (ev_var rfl) ht8) (ev_var rfl) ht9) (ev_var rfl) (q_eq (ea := D.int) (x := t9) (y := g3) (by decide)))), fun _ y_ hk => by cases hk; exact (ev_var rfl)⟩) hl11) itL hs13 ⟨_, _, _, rfl⟩ ?_ ?_
  · rintro s12 x17 s2_ q_ ⟨g14, g15, g16, rfl⟩ hb_
    refine ⟨_, _, [some ((eV D.int) row_), some (D.int g3), g14, some ((eL (eP D.int D.int)) s12), some (D.int x17), none, g16], rfl, rfl, ?_⟩
    obtain ⟨g18, hg18, hb_⟩ := ob_inv hb_
    obtain ⟨rng19, hrng19, hb_⟩ := ob_inv hb_
    obtain ⟨l25, hl25, hb_⟩ := ob_inv hb_
    obtain ⟨l26, hl26, hb_⟩ := ob_inv hb_
    obtain ⟨s28, hs28, hb_⟩ := ob_inv hb_
    refine wp_for (d := (eL D.int) l26) (ea := D.int) (K := fun s27 q_ => ∃ (g29 g30 : Option D), q_ = .nx [some ((eV D.int) row_), some (D.int g3), g29, some ((eL (eP D.int D.int)) s27), some (D.int x17), none, g30] m) (ev_cfltO (d := (eL D.int) rng19) (ea := D.int) (eb := D.int) (ev_bi2 ev_lit (ev_add (ev_bi1 (ev_ixV (ea := D.int) (ev_var rfl) (ev_sub (ev_bi1 (ev_var rfl) (b_lenV (ea := D.int))) ev_lit) hg18) b_abs) ev_lit) (b_rng2 hrng19)) itL hl25 (fun x20 b_ hk => by obtain ⟨g21, hg21, hk⟩ := ob_inv hk; obtain ⟨t22, ht22, hk⟩ := ob_inv hk; obtain ⟨t23, ht23, hk⟩ := ob_inv hk; obtain ⟨g24, hg24, hk⟩ := ob_inv hk; cases hk; exact ⟨[some ((eV D.int) row_), some (D.int g3), g14, some ((eL (eP D.int D.int)) s12), some (D.int x17), some (D.int x20), g16], rfl, (tr_bl (ev_cmp1 (ev_mul (ev_div (ev_ixV (ea := D.int) (ev_var rfl) (ev_sub (ev_bi1 (ev_var rfl) (b_lenV (ea := D.int))) ev_lit) hg21) (ev_var rfl) ht22) (ev_var rfl) ht23) (ev_ixV (ea := D.int) (ev_var rfl) (ev_sub (ev_bi1 (ev_var rfl) (b_lenV (ea := D.int))) ev_lit) hg24) (q_eq (ea := D.int) (x := t23) (y := g24) (by decide)))), fun _ y_ hk => by cases hk; exact (ev_var rfl)⟩) hl26) itL hs28 ⟨_, _, rfl⟩ ?_ ?_
    · rintro s27 x31 s2_ q_ ⟨g29, g30, rfl⟩ hb_
      refine ⟨_, _, [some ((eV D.int) row_), some (D.int g3), g29, some ((eL (eP D.int D.int)) s27), some (D.int x17), none, some (D.int x31)], rfl, rfl, ?_⟩
      obtain ⟨lowest32, hlowest32, hb_⟩ := ob_inv hb_
      obtain ⟨lowest33, hlowest33, hb_⟩ := ob_inv hb_
      obtain ⟨s35, hs35, hb_⟩ := ob_inv hb_
      refine wp_for (d := (eV (eP D.int D.int)) ([lowest32, lowest33])) (ea := (eP D.int D.int)) (K := fun s34 q_ => ∃ (g36 : Option D), q_ = .nx [some ((eV D.int) row_), some (D.int g3), g36, some ((eL (eP D.int D.int)) s34), some (D.int x17), none, some (D.int x31)] m) (ev_tu (evs_cons (ev_cl (c__law_lowest (k := k + 2) hlowest32) (evs_cons (ev_var rfl) (evs_cons (ev_var rfl) evs_nil))) (evs_cons (ev_cl (c__law_lowest (k := k + 2) hlowest33) (evs_cons (ev_neg (ev_var rfl)) (evs_cons (ev_var rfl) evs_nil))) evs_nil)) rfl) itV hs35 ⟨_, rfl⟩ ?_ ?_
      · rintro s34 x37 s2_ q_ ⟨g36, rfl⟩ hb_
        refine ⟨_, _, [some ((eV D.int) row_), some (D.int g3), some ((eP D.int D.int) x37), some ((eL (eP D.int D.int)) s34), some (D.int x17), none, some (D.int x31)], rfl, rfl, ?_⟩
        obtain ⟨c39, hc39, hb_⟩ := ob_inv hb_
        obtain ⟨rep40, hrep40, hb_⟩ := ob_inv hb_
        obtain ⟨cat41, hcat41, hb_⟩ := ob_inv hb_
        refine wp_asg (e1 := [some ((eV D.int) row_), some (D.int g3), some ((eP D.int D.int) x37), some ((eL (eP D.int D.int)) cat41), some (D.int x17), none, some (D.int x31)]) (ev_catL (ea := (eP D.int D.int)) (ev_var rfl) (ev_rep (ea := (eP D.int D.int)) (ev_ls (evs_cons (ev_var rfl) evs_nil) rfl) (ev_bi1 (ev_andO hc39 (ev_cmp1 (ev_var rfl) (ev_var rfl) (q_nmem (ea := (eP D.int D.int)) (x := x37) (ys := s34) (by decide))) (fun hk => by obtain ⟨worth38, hworth38, hk⟩ := ob_inv hk; cases hk; exact (ev_and1 (ev_cmp1 (ev_cl (c__law_worth (k := k) hworth38) (evs_cons (ev_var rfl) (evs_cons (ev_var rfl) evs_nil))) (ev_tu (evs_cons ev_lit (evs_cons ev_lit evs_nil)) rfl) (q_eq (ea := (eP D.int D.int)) (x := worth38) (y := ((0 : Int), (1 : Int))) (by decide)))))) b_intb) hrep40) hcat41) rfl ?_
        cases hb_
        exact wp_nil ⟨_, rfl⟩
      rintro q_ ⟨g36, rfl⟩
      change Wp _ _ _ _ _
      cases hb_
      exact wp_nil ⟨_, _, rfl⟩
    rintro q_ ⟨g29, g30, rfl⟩
    change Wp _ _ _ _ _
    cases hb_
    exact wp_nil ⟨_, _, _, rfl⟩
  rintro q_ ⟨g14, g15, g16, rfl⟩
  change Wp _ _ _ _ _
  obtain ⟨sorted42, hsorted42, h⟩ := ob_inv h
  cases h
  exact wp_ret (ev_cl (c__law_sorted (k := k + 3) hsorted42) (evs_cons (ev_var rfl) evs_nil)) rfl
def o_law (ns : List Int) : Option (Bool × Sta) :=
  ob (orng1 (3 : Int)) fun rng1 =>
  ob (forR (ρ := (Bool × Sta)) (σ := Sta) (fun s2 x33 =>
    ob (orng1 (3 : Int)) fun rng34 =>
    ob (mpS (fun x35 s36 => ob (o__law_draw ns (25 : Int) s36) fun draw37 => some ((draw37.1 - (12 : Int)), draw37.2)) rng34 s2) fun l38 =>
    ob (olen l38.1) fun l39 =>
    ob (o__law_draw ns (5 : Int) l38.2) fun draw40 =>
    ob (o__law_draw ns (2 : Int) draw40.2) fun draw41 =>
    ob (oget ([(1 : Int), (-(1 : Int))] : List Int) draw41.1) fun g42 =>
    ob (omul ((1 : Int) + draw40.1) g42) fun t43 =>
    ob (olen (l39 ++ ([t43] : List Int))) fun cat44 =>
    ob (o__law_draw ns (2 : Int) draw41.2) fun draw45 =>
    ob (bif (decide (draw45.1 = (0 : Int))) then (
    ob (o__law_draw ns (13 : Int) draw45.2) fun draw47 =>
    ob (o__law_draw ns (4 : Int) draw47.2) fun draw48 =>
    ob (o__law_draw ns (13 : Int) draw48.2) fun draw49 =>
    ob (o__law_draw ns (7 : Int) draw49.2) fun draw50 =>
    ob (o__law_draw ns (3 : Int) draw50.2) fun draw51 =>
    ob (o__law_times ([(draw47.1 - (6 : Int)), ((1 : Int) + draw48.1)] : List Int) ([(draw49.1 - (6 : Int)), (draw50.1 - (3 : Int)), ((1 : Int) + draw51.1)] : List Int)) fun times52 =>
    some (times52, draw51.2)) else (
    some (cat44, draw45.2))) fun j46 =>
    ob (o__law_roots j46.1) fun roots53 =>
    ob (o__law_draw ns (21 : Int) j46.2) fun draw54 =>
    ob (o__law_draw ns (6 : Int) draw54.2) fun draw55 =>
    ob (o__law_lowest (draw54.1 - (10 : Int)) ((1 : Int) + draw55.1)) fun lowest56 =>
    ob (o__law_worth j46.1 lowest56) fun worth57 =>
    ob (o_rational_roots j46.1) fun ration58 =>
    ob (o_is_drawn_cubic j46.1) fun is_dra59 =>
    ob (o_worth_2 j46.1 lowest56) fun worth60 =>
    ob (oex ((eH3 (eL (eP D.int D.int)) D.bl (eP D.int D.int)) (roots53, (!(decide (roots53 = ([] : List (Int × Int))))), worth57)) ((eH3 (eL (eP D.int D.int)) D.bl (eP D.int D.int)) (ration58, is_dra59, worth60))) fun ex61 =>
    bif (!ex61) then (
  some (.inl (false, draw55.2))) else (
  ob (orng1 (4 : Int)) fun rng62 =>
  ob (mpS (fun x63 s64 => ob (o__law_draw ns (9 : Int) s64) fun draw65 => some ((draw65.1 - (4 : Int)), draw65.2)) rng62 draw55.2) fun l66 =>
  ob (olen l66.1) fun l67 =>
  ob (o4 l67) fun tu68 =>
  ob (o__law_times ([(-tu68.1), (1 : Int)] : List Int) ([(-tu68.2.1), (1 : Int)] : List Int)) fun times69 =>
  ob (o__law_times ([(-tu68.2.2.1), (1 : Int)] : List Int) ([(-tu68.2.2.2), (1 : Int)] : List Int)) fun times70 =>
  ob (o__law_times times69 times70) fun times71 =>
  ob (omul tu68.1 tu68.2.1) fun t72 =>
  ob (omul tu68.2.2.1 tu68.2.2.2) fun t73 =>
  ob (omul tu68.1 tu68.2.2.1) fun t74 =>
  ob (omul tu68.2.1 tu68.2.2.2) fun t75 =>
  ob (o__law_times ([(-(t72 + t73)), (1 : Int)] : List Int) ([(-(t74 + t75)), (1 : Int)] : List Int)) fun times76 =>
  ob (omul tu68.1 tu68.2.2.2) fun t77 =>
  ob (omul tu68.2.1 tu68.2.2.1) fun t78 =>
  ob (o__law_times times76 ([(-(t77 + t78)), (1 : Int)] : List Int)) fun times79 =>
  ob (o_resolvent times71) fun resolv80 =>
  ob (o_is_drawn_quartic times71) fun is_dra81 =>
  ob (oex ((eH2 (eV D.int) D.bl) (times79, true)) ((eH2 (eV D.int) D.bl) (resolv80, is_dra81))) fun ex82 =>
  bif (!ex82) then (
  some (.inl (false, l66.2))) else (
  ob (orng1 (5 : Int)) fun rng83 =>
  ob (mpS (fun x84 s85 => ob (o__law_draw ns (7 : Int) s85) fun draw86 => some ((draw86.1 - (3 : Int)), draw86.2)) rng83 l66.2) fun l87 =>
  ob (olen l87.1) fun l88 =>
  ob (o5 l88) fun tu89 =>
  ob (o__law_times ([tu89.2.1, tu89.1, (1 : Int)] : List Int) ([tu89.2.1, tu89.1, (1 : Int)] : List Int)) fun times90 =>
  ob (o__law_times ([tu89.2.2.2.1, tu89.2.2.1] : List Int) ([tu89.2.2.2.1, tu89.2.2.1] : List Int)) fun times91 =>
  ob (orng1 (5 : Int)) fun rng92 =>
  ob (mpO (fun x93 => ob (oget times90 x93) fun g94 => ob (bif (decide (x93 < (3 : Int))) then (ob (oget times91 x93) fun g95 => some g95) else (some (0 : Int))) fun i96 => ob (omul tu89.2.2.2.2 i96) fun t97 => some (g94 - t97)) rng92) fun l98 =>
  ob (olen l98) fun l99 =>
  ob (o_is_drawn_quartic l99) fun is_dra100 =>
  bif (!is_dra100) then (
  some (.inl (false, l87.2))) else (
  ob (some ((tu89.1 - (3 : Int)), tu89.2.1, tu89.2.2.1, (1 : Int))) fun cubic101 =>
  ob (o__law_times ([(-tu68.1), (1 : Int)] : List Int) ([cubic101.1, cubic101.2.1, cubic101.2.2.1, cubic101.2.2.2])) fun times102 =>
  ob (o__law_roots ([cubic101.1, cubic101.2.1, cubic101.2.2.1, cubic101.2.2.2])) fun roots103 =>
  ob (o_is_drawn_quartic times102) fun is_dra104 =>
  ob (oex (D.bl (!(decide (roots103 = ([] : List (Int × Int)))))) (D.bl is_dra104)) fun ex105 =>
  bif (!ex105) then (
  some (.inl (false, l87.2))) else (
  ob (o__law_draw ns (30 : Int) l87.2) fun draw106 =>
  ob (some ((1 : Int) + draw106.1)) fun below107 =>
  ob (omul (2 : Int) below107) fun t108 =>
  ob (o__law_draw ns (t108 + (1 : Int)) draw106.2) fun draw109 =>
  ob (o__law_lowest (draw109.1 - below107) below107) fun lowest110 =>
  ob (o__law_product lowest110 lowest110) fun produc111 =>
  ob (o__law_product ((2 : Int), (1 : Int)) produc111) fun produc112 =>
  ob (o__law_plus produc112 ((-(1 : Int)), (1 : Int))) fun plus113 =>
  ob (o__law_product lowest110 produc111) fun produc114 =>
  ob (o__law_product ((4 : Int), (1 : Int)) produc114) fun produc115 =>
  ob (o__law_product ((-(3 : Int)), (1 : Int)) lowest110) fun produc116 =>
  ob (o__law_plus produc115 produc116) fun plus117 =>
  ob (omul (-(3 : Int)) lowest110.2) fun t118 =>
  ob (omul (4 : Int) lowest110.2) fun t119 =>
  ob (some ((-lowest110.1), t118, (0 : Int), t119)) fun trisected120 =>
  ob (o__law_roots ([trisected120.1, trisected120.2.1, trisected120.2.2.1, trisected120.2.2.2])) fun roots121 =>
  ob (some (plus113, plus117, trisected120, (!(decide (roots121 = ([] : List (Int × Int))))))) fun due122 =>
  ob (o_double_cosine lowest110) fun double123 =>
  ob (o_triple_cosine lowest110) fun triple124 =>
  ob (o_third_cubic lowest110) fun third_125 =>
  ob (o_can_third lowest110) fun can_th126 =>
  ob (oex ((eH4 (eP D.int D.int) (eP D.int D.int) (eT4 D.int D.int D.int D.int) D.bl) due122) ((eH4 (eP D.int D.int) (eP D.int D.int) (eV D.int) D.bl) (double123, triple124, third_125, can_th126))) fun ex127 =>
  ob (bif (!ex127) then (some true) else (ob (bif (decide (plus117.2 ≤ (100 : Int))) then (ob (o_can_third plus117) fun can_th128 => some (!can_th128)) else (some false)) fun c129 => some c129)) fun c130 =>
  bif c130 then (
  some (.inl (false, draw109.2))) else (
  ob (some ([] : List (Int × Int))) fun rows131 =>
  ob (orng1 (5 : Int)) fun rng132 =>
  ob (forO (σ := (List (Int × Int) × Sta)) (fun s133 x137 =>
    ob (o__law_draw ns (21 : Int) s133.2) fun draw138 =>
    ob (o__law_draw ns (6 : Int) draw138.2) fun draw139 =>
    ob (o__law_lowest (draw138.1 - (10 : Int)) ((1 : Int) + draw139.1)) fun lowest140 =>
    ob (orep ([lowest140] : List (Int × Int)) (b2i (!(memT lowest140 s133.1)))) fun rep141 =>
    ob (olen (s133.1 ++ rep141)) fun cat142 =>
    some (cat142, draw139.2)) rng132 (rows131, draw109.2)) fun s134 =>
  ob (o__law_sorted s134.1) fun sorted143 =>
  ob (o_rising s134.1) fun rising144 =>
  ob (oex ((eL (eP D.int D.int)) sorted143) ((eL (eP D.int D.int)) rising144)) fun ex145 =>
  bif (!ex145) then (
  some (.inl (false, s134.2))) else (
  some (.inr s134.2)))))))) rng1 (0, 0)) fun s3 =>
  (match s3 with
    | .inl v_ => some v_
    | .inr j146 =>
    ob (o_can_third ((1 : Int), (2 : Int))) fun can_th147 =>
    ob (bif (!can_th147) then (ob (o_can_third ((0 : Int), (1 : Int))) fun can_th148 => ob (bif can_th148 then (ob (o_is_drawn_cubic ([(-(2 : Int)), (0 : Int), (0 : Int), (1 : Int)] : List Int)) fun is_dra149 => ob (bif (!is_dra149) then (ob (o_is_drawn_quartic ([(1 : Int), (1 : Int), (0 : Int), (0 : Int), (1 : Int)] : List Int)) fun is_dra150 => ob (bif (!is_dra150) then (ob (o_is_drawn_quartic ([(-(2 : Int)), (0 : Int), (0 : Int), (0 : Int), (1 : Int)] : List Int)) fun is_dra151 => some is_dra151) else (some false)) fun c152 => some c152) else (some false)) fun c153 => some c153) else (some false)) fun c154 => some c154) else (some false)) fun c155 =>
    some (c155, j146))
theorem w_law {ns : List Int} {k : Nat} {r_ : (Bool × Sta)} (h : o_law ns = some r_) : Wp (PK ns (k + 9)) b_law (some .scr :: some .st :: none :: none :: none :: none :: none :: none :: none :: none :: none :: none :: none :: none :: none :: none :: none :: none :: none :: none :: none :: none :: none :: none :: none :: none :: none :: none :: none :: none :: none :: none :: []) (eS (0, 0)) fun q => rvR q = (D.bl r_.1, eS r_.2) := by
  unfold o_law at h
  obtain ⟨rng1, hrng1, h⟩ := ob_inv h
  obtain ⟨s3, hs3, h⟩ := ob_inv h
  refine wp_forR (d := (eL D.int) rng1) (ea := D.int) (K := fun r_ q_ => match r_ with | .inl v_ => q_ = .rt (D.bl v_.1) (eS v_.2) | .inr j146 => ∃ (g4 g5 g6 g7 g8 g9 g10 g11 g12 g13 g14 g15 g16 g17 g18 g19 g20 g21 g22 g23 g24 g25 g26 g27 g28 g29 g30 g31 g32 : Option D), q_ = .nx (some .scr :: some .st :: g4 :: g5 :: none :: g6 :: g7 :: g8 :: g9 :: g10 :: g11 :: g12 :: g13 :: g14 :: g15 :: g16 :: g17 :: g18 :: g19 :: g20 :: g21 :: g22 :: g23 :: g24 :: g25 :: g26 :: g27 :: g28 :: g29 :: g30 :: g31 :: g32 :: []) (eS j146)) (ev_bi1 ev_lit (b_rng1 hrng1)) itL hs3 ⟨_, _, _, _, _, _, _, _, _, _, _, _, _, _, _, _, _, _, _, _, _, _, _, _, _, _, _, _, _, rfl⟩ (fun _ _ hq_ => ⟨_, _, hq_⟩) ?_ ?_
  · rintro s2 x33 s2_ q_ hq_ hb_
    obtain ⟨g4, g5, g6, g7, g8, g9, g10, g11, g12, g13, g14, g15, g16, g17, g18, g19, g20, g21, g22, g23, g24, g25, g26, g27, g28, g29, g30, g31, g32, rfl⟩ := hq_
    refine ⟨_, _, (some .scr :: some .st :: some (D.int x33) :: g5 :: none :: g6 :: g7 :: g8 :: g9 :: g10 :: g11 :: g12 :: g13 :: g14 :: g15 :: g16 :: g17 :: g18 :: g19 :: g20 :: g21 :: g22 :: g23 :: g24 :: g25 :: g26 :: g27 :: g28 :: g29 :: g30 :: g31 :: g32 :: []), rfl, rfl, ?_⟩
    obtain ⟨rng34, hrng34, hb_⟩ := ob_inv hb_
    obtain ⟨l38, hl38, hb_⟩ := ob_inv hb_
    obtain ⟨l39, hl39, hb_⟩ := ob_inv hb_
    obtain ⟨draw40, hdraw40, hb_⟩ := ob_inv hb_
    obtain ⟨draw41, hdraw41, hb_⟩ := ob_inv hb_
    obtain ⟨g42, hg42, hb_⟩ := ob_inv hb_
    obtain ⟨t43, ht43, hb_⟩ := ob_inv hb_
    obtain ⟨cat44, hcat44, hb_⟩ := ob_inv hb_
    refine wp_asg (e1 := (some .scr :: some .st :: some (D.int x33) :: some ((eV D.int) cat44) :: none :: g6 :: g7 :: g8 :: g9 :: g10 :: g11 :: g12 :: g13 :: g14 :: g15 :: g16 :: g17 :: g18 :: g19 :: g20 :: g21 :: g22 :: g23 :: g24 :: g25 :: g26 :: g27 :: g28 :: g29 :: g30 :: g31 :: g32 :: [])) (ev_bi1 (ev_catL (ea := D.int) (ev_cmapS (d := (eL D.int) rng34) (ea := D.int) (eb := D.int) (ev_bi1 ev_lit (b_rng1 hrng34)) itL hl38 (fun x35 s36 y_ hk => by obtain ⟨draw37, hdraw37, hk⟩ := ob_inv hk; cases hk; exact ⟨(some .scr :: some .st :: some (D.int x33) :: g5 :: some (D.int x35) :: g6 :: g7 :: g8 :: g9 :: g10 :: g11 :: g12 :: g13 :: g14 :: g15 :: g16 :: g17 :: g18 :: g19 :: g20 :: g21 :: g22 :: g23 :: g24 :: g25 :: g26 :: g27 :: g28 :: g29 :: g30 :: g31 :: g32 :: []), rfl, (ev_sub (ev_cl (c__law_draw (k := k + 7) hdraw37) (evs_cons (ev_var rfl) (evs_cons (ev_var rfl) (evs_cons ev_lit evs_nil)))) ev_lit)⟩) hl39) (ev_ls (evs_cons (ev_mul (ev_add ev_lit (ev_cl (c__law_draw (k := k + 7) hdraw40) (evs_cons (ev_var rfl) (evs_cons (ev_var rfl) (evs_cons ev_lit evs_nil))))) (ev_ixL (ea := D.int) (ev_ls (evs_cons ev_lit (evs_cons (ev_neg ev_lit) evs_nil)) rfl) (ev_cl (c__law_draw (k := k + 7) hdraw41) (evs_cons (ev_var rfl) (evs_cons (ev_var rfl) (evs_cons ev_lit evs_nil)))) hg42) ht43) evs_nil) rfl) hcat44) (b_tupL (ea := D.int))) rfl ?_
    obtain ⟨draw45, hdraw45, hb_⟩ := ob_inv hb_
    obtain ⟨j46, hj46, hb_⟩ := ob_inv hb_
    refine wp_ifj (K := fun q_ => q_ = .nx (some .scr :: some .st :: some (D.int x33) :: some ((eV D.int) j46.1) :: none :: g6 :: g7 :: g8 :: g9 :: g10 :: g11 :: g12 :: g13 :: g14 :: g15 :: g16 :: g17 :: g18 :: g19 :: g20 :: g21 :: g22 :: g23 :: g24 :: g25 :: g26 :: g27 :: g28 :: g29 :: g30 :: g31 :: g32 :: []) (eS j46.2)) (tr_bl (ev_cmp1 (ev_cl (c__law_draw (k := k + 7) hdraw45) (evs_cons (ev_var rfl) (evs_cons (ev_var rfl) (evs_cons ev_lit evs_nil)))) ev_lit (q_eq (ea := D.int) (x := draw45.1) (y := (0 : Int)) (by decide)))) ?_ ?_ ?_
    · intro hc_
      replace hj46 := cnT hc_ hj46
      obtain ⟨draw47, hdraw47, hj46⟩ := ob_inv hj46
      obtain ⟨draw48, hdraw48, hj46⟩ := ob_inv hj46
      obtain ⟨draw49, hdraw49, hj46⟩ := ob_inv hj46
      obtain ⟨draw50, hdraw50, hj46⟩ := ob_inv hj46
      obtain ⟨draw51, hdraw51, hj46⟩ := ob_inv hj46
      obtain ⟨times52, htimes52, hj46⟩ := ob_inv hj46
      refine wp_asg (e1 := (some .scr :: some .st :: some (D.int x33) :: some ((eV D.int) times52) :: none :: g6 :: g7 :: g8 :: g9 :: g10 :: g11 :: g12 :: g13 :: g14 :: g15 :: g16 :: g17 :: g18 :: g19 :: g20 :: g21 :: g22 :: g23 :: g24 :: g25 :: g26 :: g27 :: g28 :: g29 :: g30 :: g31 :: g32 :: [])) (ev_cl (c__law_times (k := k + 8) htimes52) (evs_cons (ev_tu (evs_cons (ev_sub (ev_cl (c__law_draw (k := k + 7) hdraw47) (evs_cons (ev_var rfl) (evs_cons (ev_var rfl) (evs_cons ev_lit evs_nil)))) ev_lit) (evs_cons (ev_add ev_lit (ev_cl (c__law_draw (k := k + 7) hdraw48) (evs_cons (ev_var rfl) (evs_cons (ev_var rfl) (evs_cons ev_lit evs_nil))))) evs_nil)) rfl) (evs_cons (ev_tu (evs_cons (ev_sub (ev_cl (c__law_draw (k := k + 7) hdraw49) (evs_cons (ev_var rfl) (evs_cons (ev_var rfl) (evs_cons ev_lit evs_nil)))) ev_lit) (evs_cons (ev_sub (ev_cl (c__law_draw (k := k + 7) hdraw50) (evs_cons (ev_var rfl) (evs_cons (ev_var rfl) (evs_cons ev_lit evs_nil)))) ev_lit) (evs_cons (ev_add ev_lit (ev_cl (c__law_draw (k := k + 7) hdraw51) (evs_cons (ev_var rfl) (evs_cons (ev_var rfl) (evs_cons ev_lit evs_nil))))) evs_nil))) rfl) evs_nil))) rfl ?_
      cases hj46
      exact wp_nil rfl
    · intro hc_
      replace hj46 := cnF hc_ hj46
      cases hj46
      exact wp_nil rfl
    rintro q_ rfl
    change Wp _ _ _ _ _
    obtain ⟨roots53, hroots53, hb_⟩ := ob_inv hb_
    refine wp_asg (e1 := (some .scr :: some .st :: some (D.int x33) :: some ((eV D.int) j46.1) :: none :: some ((eL (eP D.int D.int)) roots53) :: g7 :: g8 :: g9 :: g10 :: g11 :: g12 :: g13 :: g14 :: g15 :: g16 :: g17 :: g18 :: g19 :: g20 :: g21 :: g22 :: g23 :: g24 :: g25 :: g26 :: g27 :: g28 :: g29 :: g30 :: g31 :: g32 :: [])) (ev_cl (c__law_roots (k := k + 4) hroots53) (evs_cons (ev_var rfl) evs_nil)) rfl ?_
    obtain ⟨draw54, hdraw54, hb_⟩ := ob_inv hb_
    obtain ⟨draw55, hdraw55, hb_⟩ := ob_inv hb_
    obtain ⟨lowest56, hlowest56, hb_⟩ := ob_inv hb_
    refine wp_asg (e1 := (some .scr :: some .st :: some (D.int x33) :: some ((eV D.int) j46.1) :: none :: some ((eL (eP D.int D.int)) roots53) :: some ((eP D.int D.int) lowest56) :: g8 :: g9 :: g10 :: g11 :: g12 :: g13 :: g14 :: g15 :: g16 :: g17 :: g18 :: g19 :: g20 :: g21 :: g22 :: g23 :: g24 :: g25 :: g26 :: g27 :: g28 :: g29 :: g30 :: g31 :: g32 :: [])) (ev_cl (c__law_lowest (k := k + 7) hlowest56) (evs_cons (ev_sub (ev_cl (c__law_draw (k := k + 7) hdraw54) (evs_cons (ev_var rfl) (evs_cons (ev_var rfl) (evs_cons ev_lit evs_nil)))) ev_lit) (evs_cons (ev_add ev_lit (ev_cl (c__law_draw (k := k + 7) hdraw55) (evs_cons (ev_var rfl) (evs_cons (ev_var rfl) (evs_cons ev_lit evs_nil))))) evs_nil))) rfl ?_
    obtain ⟨worth57, hworth57, hb_⟩ := ob_inv hb_
    obtain ⟨ration58, hration58, hb_⟩ := ob_inv hb_
    obtain ⟨is_dra59, his_dra59, hb_⟩ := ob_inv hb_
    obtain ⟨worth60, hworth60, hb_⟩ := ob_inv hb_
    obtain ⟨ex61, hex61, hb_⟩ := ob_inv hb_
    refine wp_if (tr_bl (ev_not (tr_bl (ev_cl (c__law_exact hex61) (evs_cons (ev_ls (evs_cons (ev_var rfl) (evs_cons (ev_cmp1 (ev_var rfl) (ev_ls evs_nil rfl) (q_ne (ea := (eL (eP D.int D.int))) (x := roots53) (y := ([] : List (Int × Int))) (by decide))) (evs_cons (ev_cl (c__law_worth (k := k + 5) hworth57) (evs_cons (ev_var rfl) (evs_cons (ev_var rfl) evs_nil))) evs_nil))) rfl) (evs_cons (ev_ls (evs_cons (ev_cl (c_rational_roots (k := k + 6) hration58) (evs_cons (ev_var rfl) evs_nil)) (evs_cons (ev_cl (c_is_drawn_cubic (k := k + 5) his_dra59) (evs_cons (ev_var rfl) evs_nil)) (evs_cons (ev_cl (c_worth_2 (k := k + 7) hworth60) (evs_cons (ev_var rfl) (evs_cons (ev_var rfl) evs_nil))) evs_nil))) rfl) evs_nil)))))) ?_ ?_
    · intro hc_
      replace hb_ := cnT hc_ hb_
      cases hb_
      exact wp_ret ev_lit rfl
    · intro hc_
      replace hb_ := cnF hc_ hb_
      refine wp_nil ?_
      change Wp _ _ _ _ _
      obtain ⟨rng62, hrng62, hb_⟩ := ob_inv hb_
      obtain ⟨l66, hl66, hb_⟩ := ob_inv hb_
      obtain ⟨l67, hl67, hb_⟩ := ob_inv hb_
      obtain ⟨tu68, htu68, hb_⟩ := ob_inv hb_
      refine wp_asg (e1 := (some .scr :: some .st :: some (D.int x33) :: some ((eV D.int) j46.1) :: none :: some ((eL (eP D.int D.int)) roots53) :: some ((eP D.int D.int) lowest56) :: some (D.int tu68.1) :: some (D.int tu68.2.1) :: some (D.int tu68.2.2.1) :: some (D.int tu68.2.2.2) :: g12 :: g13 :: g14 :: g15 :: g16 :: g17 :: g18 :: g19 :: g20 :: g21 :: g22 :: g23 :: g24 :: g25 :: g26 :: g27 :: g28 :: g29 :: g30 :: g31 :: g32 :: [])) (ev_eq' (ea := (eL D.int)) (t := l67) (ev_cmapS (d := (eL D.int) rng62) (ea := D.int) (eb := D.int) (ev_bi1 ev_lit (b_rng1 hrng62)) itL hl66 (fun x63 s64 y_ hk => by obtain ⟨draw65, hdraw65, hk⟩ := ob_inv hk; cases hk; exact ⟨(some .scr :: some .st :: some (D.int x33) :: some ((eV D.int) j46.1) :: some (D.int x63) :: some ((eL (eP D.int D.int)) roots53) :: some ((eP D.int D.int) lowest56) :: g8 :: g9 :: g10 :: g11 :: g12 :: g13 :: g14 :: g15 :: g16 :: g17 :: g18 :: g19 :: g20 :: g21 :: g22 :: g23 :: g24 :: g25 :: g26 :: g27 :: g28 :: g29 :: g30 :: g31 :: g32 :: []), rfl, (ev_sub (ev_cl (c__law_draw (k := k + 7) hdraw65) (evs_cons (ev_var rfl) (evs_cons (ev_var rfl) (evs_cons ev_lit evs_nil)))) ev_lit)⟩) hl67) (o4_inv htu68)) rfl ?_
      obtain ⟨times69, htimes69, hb_⟩ := ob_inv hb_
      obtain ⟨times70, htimes70, hb_⟩ := ob_inv hb_
      obtain ⟨times71, htimes71, hb_⟩ := ob_inv hb_
      refine wp_asg (e1 := (some .scr :: some .st :: some (D.int x33) :: some ((eV D.int) j46.1) :: none :: some ((eL (eP D.int D.int)) roots53) :: some ((eP D.int D.int) lowest56) :: some (D.int tu68.1) :: some (D.int tu68.2.1) :: some (D.int tu68.2.2.1) :: some (D.int tu68.2.2.2) :: some ((eV D.int) times71) :: g13 :: g14 :: g15 :: g16 :: g17 :: g18 :: g19 :: g20 :: g21 :: g22 :: g23 :: g24 :: g25 :: g26 :: g27 :: g28 :: g29 :: g30 :: g31 :: g32 :: [])) (ev_cl (c__law_times (k := k + 8) htimes71) (evs_cons (ev_cl (c__law_times (k := k + 8) htimes69) (evs_cons (ev_tu (evs_cons (ev_neg (ev_var rfl)) (evs_cons ev_lit evs_nil)) rfl) (evs_cons (ev_tu (evs_cons (ev_neg (ev_var rfl)) (evs_cons ev_lit evs_nil)) rfl) evs_nil))) (evs_cons (ev_cl (c__law_times (k := k + 8) htimes70) (evs_cons (ev_tu (evs_cons (ev_neg (ev_var rfl)) (evs_cons ev_lit evs_nil)) rfl) (evs_cons (ev_tu (evs_cons (ev_neg (ev_var rfl)) (evs_cons ev_lit evs_nil)) rfl) evs_nil))) evs_nil))) rfl ?_
      obtain ⟨t72, ht72, hb_⟩ := ob_inv hb_
      obtain ⟨t73, ht73, hb_⟩ := ob_inv hb_
      obtain ⟨t74, ht74, hb_⟩ := ob_inv hb_
      obtain ⟨t75, ht75, hb_⟩ := ob_inv hb_
      obtain ⟨times76, htimes76, hb_⟩ := ob_inv hb_
      obtain ⟨t77, ht77, hb_⟩ := ob_inv hb_
      obtain ⟨t78, ht78, hb_⟩ := ob_inv hb_
      obtain ⟨times79, htimes79, hb_⟩ := ob_inv hb_
      refine wp_asg (e1 := (some .scr :: some .st :: some (D.int x33) :: some ((eV D.int) j46.1) :: none :: some ((eL (eP D.int D.int)) roots53) :: some ((eP D.int D.int) lowest56) :: some (D.int tu68.1) :: some (D.int tu68.2.1) :: some (D.int tu68.2.2.1) :: some (D.int tu68.2.2.2) :: some ((eV D.int) times71) :: some ((eV D.int) times79) :: g14 :: g15 :: g16 :: g17 :: g18 :: g19 :: g20 :: g21 :: g22 :: g23 :: g24 :: g25 :: g26 :: g27 :: g28 :: g29 :: g30 :: g31 :: g32 :: [])) (ev_cl (c__law_times (k := k + 8) htimes79) (evs_cons (ev_cl (c__law_times (k := k + 8) htimes76) (evs_cons (ev_tu (evs_cons (ev_neg (ev_add (ev_mul (ev_var rfl) (ev_var rfl) ht72) (ev_mul (ev_var rfl) (ev_var rfl) ht73))) (evs_cons ev_lit evs_nil)) rfl) (evs_cons (ev_tu (evs_cons (ev_neg (ev_add (ev_mul (ev_var rfl) (ev_var rfl) ht74) (ev_mul (ev_var rfl) (ev_var rfl) ht75))) (evs_cons ev_lit evs_nil)) rfl) evs_nil))) (evs_cons (ev_tu (evs_cons (ev_neg (ev_add (ev_mul (ev_var rfl) (ev_var rfl) ht77) (ev_mul (ev_var rfl) (ev_var rfl) ht78))) (evs_cons ev_lit evs_nil)) rfl) evs_nil))) rfl ?_
      obtain ⟨resolv80, hresolv80, hb_⟩ := ob_inv hb_
      obtain ⟨is_dra81, his_dra81, hb_⟩ := ob_inv hb_
      obtain ⟨ex82, hex82, hb_⟩ := ob_inv hb_
      refine wp_if (tr_bl (ev_not (tr_bl (ev_cl (c__law_exact hex82) (evs_cons (ev_ls (evs_cons (ev_var rfl) (evs_cons ev_lit evs_nil)) rfl) (evs_cons (ev_ls (evs_cons (ev_cl (c_resolvent (k := k + 8) hresolv80) (evs_cons (ev_var rfl) evs_nil)) (evs_cons (ev_cl (c_is_drawn_quartic (k := k + 5) his_dra81) (evs_cons (ev_var rfl) evs_nil)) evs_nil)) rfl) evs_nil)))))) ?_ ?_
      · intro hc_
        replace hb_ := cnT hc_ hb_
        cases hb_
        exact wp_ret ev_lit rfl
      · intro hc_
        replace hb_ := cnF hc_ hb_
        refine wp_nil ?_
        change Wp _ _ _ _ _
        obtain ⟨rng83, hrng83, hb_⟩ := ob_inv hb_
        obtain ⟨l87, hl87, hb_⟩ := ob_inv hb_
        obtain ⟨l88, hl88, hb_⟩ := ob_inv hb_
        obtain ⟨tu89, htu89, hb_⟩ := ob_inv hb_
        refine wp_asg (e1 := (some .scr :: some .st :: some (D.int x33) :: some ((eV D.int) j46.1) :: none :: some ((eL (eP D.int D.int)) roots53) :: some ((eP D.int D.int) lowest56) :: some (D.int tu68.1) :: some (D.int tu68.2.1) :: some (D.int tu68.2.2.1) :: some (D.int tu68.2.2.2) :: some ((eV D.int) times71) :: some ((eV D.int) times79) :: some (D.int tu89.1) :: some (D.int tu89.2.1) :: some (D.int tu89.2.2.1) :: some (D.int tu89.2.2.2.1) :: some (D.int tu89.2.2.2.2) :: g19 :: g20 :: g21 :: g22 :: g23 :: g24 :: g25 :: g26 :: g27 :: g28 :: g29 :: g30 :: g31 :: g32 :: [])) (ev_eq' (ea := (eL D.int)) (t := l88) (ev_cmapS (d := (eL D.int) rng83) (ea := D.int) (eb := D.int) (ev_bi1 ev_lit (b_rng1 hrng83)) itL hl87 (fun x84 s85 y_ hk => by obtain ⟨draw86, hdraw86, hk⟩ := ob_inv hk; cases hk; exact ⟨(some .scr :: some .st :: some (D.int x33) :: some ((eV D.int) j46.1) :: some (D.int x84) :: some ((eL (eP D.int D.int)) roots53) :: some ((eP D.int D.int) lowest56) :: some (D.int tu68.1) :: some (D.int tu68.2.1) :: some (D.int tu68.2.2.1) :: some (D.int tu68.2.2.2) :: some ((eV D.int) times71) :: some ((eV D.int) times79) :: g14 :: g15 :: g16 :: g17 :: g18 :: g19 :: g20 :: g21 :: g22 :: g23 :: g24 :: g25 :: g26 :: g27 :: g28 :: g29 :: g30 :: g31 :: g32 :: []), rfl, (ev_sub (ev_cl (c__law_draw (k := k + 7) hdraw86) (evs_cons (ev_var rfl) (evs_cons (ev_var rfl) (evs_cons ev_lit evs_nil)))) ev_lit)⟩) hl88) (o5_inv htu89)) rfl ?_
        obtain ⟨times90, htimes90, hb_⟩ := ob_inv hb_
        obtain ⟨times91, htimes91, hb_⟩ := ob_inv hb_
        refine wp_asg (e1 := (some .scr :: some .st :: some (D.int x33) :: some ((eV D.int) j46.1) :: none :: some ((eL (eP D.int D.int)) roots53) :: some ((eP D.int D.int) lowest56) :: some (D.int tu68.1) :: some (D.int tu68.2.1) :: some (D.int tu68.2.2.1) :: some (D.int tu68.2.2.2) :: some ((eV D.int) times71) :: some ((eV D.int) times79) :: some (D.int tu89.1) :: some (D.int tu89.2.1) :: some (D.int tu89.2.2.1) :: some (D.int tu89.2.2.2.1) :: some (D.int tu89.2.2.2.2) :: some ((eV D.int) times90) :: some ((eV D.int) times91) :: g21 :: g22 :: g23 :: g24 :: g25 :: g26 :: g27 :: g28 :: g29 :: g30 :: g31 :: g32 :: [])) (ev_tu (evs_cons (ev_cl (c__law_times (k := k + 8) htimes90) (evs_cons (ev_tu (evs_cons (ev_var rfl) (evs_cons (ev_var rfl) (evs_cons ev_lit evs_nil))) rfl) (evs_cons (ev_tu (evs_cons (ev_var rfl) (evs_cons (ev_var rfl) (evs_cons ev_lit evs_nil))) rfl) evs_nil))) (evs_cons (ev_cl (c__law_times (k := k + 8) htimes91) (evs_cons (ev_tu (evs_cons (ev_var rfl) (evs_cons (ev_var rfl) evs_nil)) rfl) (evs_cons (ev_tu (evs_cons (ev_var rfl) (evs_cons (ev_var rfl) evs_nil)) rfl) evs_nil))) evs_nil)) rfl) rfl ?_
        obtain ⟨rng92, hrng92, hb_⟩ := ob_inv hb_
        obtain ⟨l98, hl98, hb_⟩ := ob_inv hb_
        obtain ⟨l99, hl99, hb_⟩ := ob_inv hb_
        refine wp_asg (e1 := (some .scr :: some .st :: some (D.int x33) :: some ((eV D.int) j46.1) :: none :: some ((eL (eP D.int D.int)) roots53) :: some ((eP D.int D.int) lowest56) :: some (D.int tu68.1) :: some (D.int tu68.2.1) :: some (D.int tu68.2.2.1) :: some (D.int tu68.2.2.2) :: some ((eV D.int) times71) :: some ((eV D.int) times79) :: some (D.int tu89.1) :: some (D.int tu89.2.1) :: some (D.int tu89.2.2.1) :: some (D.int tu89.2.2.2.1) :: some (D.int tu89.2.2.2.2) :: some ((eV D.int) times90) :: some ((eV D.int) times91) :: some ((eV D.int) l99) :: g22 :: g23 :: g24 :: g25 :: g26 :: g27 :: g28 :: g29 :: g30 :: g31 :: g32 :: [])) (ev_bi1 (ev_cmapO (d := (eL D.int) rng92) (ea := D.int) (eb := D.int) (ev_bi1 ev_lit (b_rng1 hrng92)) itL hl98 (fun x93 y_ hk => by obtain ⟨g94, hg94, hk⟩ := ob_inv hk; obtain ⟨i96, hi96, hk⟩ := ob_inv hk; obtain ⟨t97, ht97, hk⟩ := ob_inv hk; cases hk; exact ⟨(some .scr :: some .st :: some (D.int x33) :: some ((eV D.int) j46.1) :: some (D.int x93) :: some ((eL (eP D.int D.int)) roots53) :: some ((eP D.int D.int) lowest56) :: some (D.int tu68.1) :: some (D.int tu68.2.1) :: some (D.int tu68.2.2.1) :: some (D.int tu68.2.2.2) :: some ((eV D.int) times71) :: some ((eV D.int) times79) :: some (D.int tu89.1) :: some (D.int tu89.2.1) :: some (D.int tu89.2.2.1) :: some (D.int tu89.2.2.2.1) :: some (D.int tu89.2.2.2.2) :: some ((eV D.int) times90) :: some ((eV D.int) times91) :: g21 :: g22 :: g23 :: g24 :: g25 :: g26 :: g27 :: g28 :: g29 :: g30 :: g31 :: g32 :: []), rfl, (ev_sub (ev_ixV (ea := D.int) (ev_var rfl) (ev_var rfl) hg94) (ev_mul (ev_var rfl) (ev_iteO (ea := D.int) hi96 (tr_bl (ev_cmp1 (ev_var rfl) ev_lit q_lt)) (fun hk => by obtain ⟨g95, hg95, hk⟩ := ob_inv hk; cases hk; exact (ev_ixV (ea := D.int) (ev_var rfl) (ev_var rfl) hg95)) (fun hk => by cases hk; exact ev_lit)) ht97))⟩) hl99) (b_tupL (ea := D.int))) rfl ?_
        obtain ⟨is_dra100, his_dra100, hb_⟩ := ob_inv hb_
        refine wp_if (tr_bl (ev_not (tr_bl (ev_cl (c_is_drawn_quartic (k := k + 5) his_dra100) (evs_cons (ev_var rfl) evs_nil))))) ?_ ?_
        · intro hc_
          replace hb_ := cnT hc_ hb_
          cases hb_
          exact wp_ret ev_lit rfl
        · intro hc_
          replace hb_ := cnF hc_ hb_
          refine wp_nil ?_
          change Wp _ _ _ _ _
          obtain ⟨cubic101, hcubic101, hb_⟩ := ob_inv hb_
          refine wp_asg (e1 := (some .scr :: some .st :: some (D.int x33) :: some ((eV D.int) j46.1) :: none :: some ((eL (eP D.int D.int)) roots53) :: some ((eP D.int D.int) lowest56) :: some (D.int tu68.1) :: some (D.int tu68.2.1) :: some (D.int tu68.2.2.1) :: some (D.int tu68.2.2.2) :: some ((eV D.int) times71) :: some ((eV D.int) times79) :: some (D.int tu89.1) :: some (D.int tu89.2.1) :: some (D.int tu89.2.2.1) :: some (D.int tu89.2.2.2.1) :: some (D.int tu89.2.2.2.2) :: some ((eV D.int) times90) :: some ((eV D.int) times91) :: some ((eV D.int) l99) :: some ((eT4 D.int D.int D.int D.int) cubic101) :: g23 :: g24 :: g25 :: g26 :: g27 :: g28 :: g29 :: g30 :: g31 :: g32 :: [])) (ev_eq (ea := (eT4 D.int D.int D.int D.int)) (t := ((tu89.1 - (3 : Int)), tu89.2.1, tu89.2.2.1, (1 : Int))) (ev_tu (evs_cons (ev_sub (ev_var rfl) ev_lit) (evs_cons (ev_var rfl) (evs_cons (ev_var rfl) (evs_cons ev_lit evs_nil)))) rfl) hcubic101) rfl ?_
          obtain ⟨times102, htimes102, hb_⟩ := ob_inv hb_
          refine wp_asg (e1 := (some .scr :: some .st :: some (D.int x33) :: some ((eV D.int) j46.1) :: none :: some ((eL (eP D.int D.int)) roots53) :: some ((eP D.int D.int) lowest56) :: some (D.int tu68.1) :: some (D.int tu68.2.1) :: some (D.int tu68.2.2.1) :: some (D.int tu68.2.2.2) :: some ((eV D.int) times71) :: some ((eV D.int) times79) :: some (D.int tu89.1) :: some (D.int tu89.2.1) :: some (D.int tu89.2.2.1) :: some (D.int tu89.2.2.2.1) :: some (D.int tu89.2.2.2.2) :: some ((eV D.int) times90) :: some ((eV D.int) times91) :: some ((eV D.int) l99) :: some ((eT4 D.int D.int D.int D.int) cubic101) :: some ((eV D.int) times102) :: g24 :: g25 :: g26 :: g27 :: g28 :: g29 :: g30 :: g31 :: g32 :: [])) (ev_cl (c__law_times (k := k + 8) htimes102) (evs_cons (ev_tu (evs_cons (ev_neg (ev_var rfl)) (evs_cons ev_lit evs_nil)) rfl) (evs_cons (ev_var rfl) evs_nil))) rfl ?_
          obtain ⟨roots103, hroots103, hb_⟩ := ob_inv hb_
          obtain ⟨is_dra104, his_dra104, hb_⟩ := ob_inv hb_
          obtain ⟨ex105, hex105, hb_⟩ := ob_inv hb_
          refine wp_if (tr_bl (ev_not (tr_bl (ev_cl (c__law_exact hex105) (evs_cons (ev_cmp1 (ev_cl (c__law_roots (k := k + 4) hroots103) (evs_cons (ev_var rfl) evs_nil)) (ev_ls evs_nil rfl) (q_ne (ea := (eL (eP D.int D.int))) (x := roots103) (y := ([] : List (Int × Int))) (by decide))) (evs_cons (ev_cl (c_is_drawn_quartic (k := k + 5) his_dra104) (evs_cons (ev_var rfl) evs_nil)) evs_nil)))))) ?_ ?_
          · intro hc_
            replace hb_ := cnT hc_ hb_
            cases hb_
            exact wp_ret ev_lit rfl
          · intro hc_
            replace hb_ := cnF hc_ hb_
            refine wp_nil ?_
            change Wp _ _ _ _ _
            obtain ⟨draw106, hdraw106, hb_⟩ := ob_inv hb_
            obtain ⟨below107, hbelow107, hb_⟩ := ob_inv hb_
            refine wp_asg (e1 := (some .scr :: some .st :: some (D.int x33) :: some ((eV D.int) j46.1) :: none :: some ((eL (eP D.int D.int)) roots53) :: some ((eP D.int D.int) lowest56) :: some (D.int tu68.1) :: some (D.int tu68.2.1) :: some (D.int tu68.2.2.1) :: some (D.int tu68.2.2.2) :: some ((eV D.int) times71) :: some ((eV D.int) times79) :: some (D.int tu89.1) :: some (D.int tu89.2.1) :: some (D.int tu89.2.2.1) :: some (D.int tu89.2.2.2.1) :: some (D.int tu89.2.2.2.2) :: some ((eV D.int) times90) :: some ((eV D.int) times91) :: some ((eV D.int) l99) :: some ((eT4 D.int D.int D.int D.int) cubic101) :: some ((eV D.int) times102) :: some (D.int below107) :: g25 :: g26 :: g27 :: g28 :: g29 :: g30 :: g31 :: g32 :: [])) (ev_eq (ea := D.int) (t := ((1 : Int) + draw106.1)) (ev_add ev_lit (ev_cl (c__law_draw (k := k + 7) hdraw106) (evs_cons (ev_var rfl) (evs_cons (ev_var rfl) (evs_cons ev_lit evs_nil))))) hbelow107) rfl ?_
            obtain ⟨t108, ht108, hb_⟩ := ob_inv hb_
            obtain ⟨draw109, hdraw109, hb_⟩ := ob_inv hb_
            obtain ⟨lowest110, hlowest110, hb_⟩ := ob_inv hb_
            refine wp_asg (e1 := (some .scr :: some .st :: some (D.int x33) :: some ((eV D.int) j46.1) :: none :: some ((eL (eP D.int D.int)) roots53) :: some ((eP D.int D.int) lowest56) :: some (D.int tu68.1) :: some (D.int tu68.2.1) :: some (D.int tu68.2.2.1) :: some (D.int tu68.2.2.2) :: some ((eV D.int) times71) :: some ((eV D.int) times79) :: some (D.int tu89.1) :: some (D.int tu89.2.1) :: some (D.int tu89.2.2.1) :: some (D.int tu89.2.2.2.1) :: some (D.int tu89.2.2.2.2) :: some ((eV D.int) times90) :: some ((eV D.int) times91) :: some ((eV D.int) l99) :: some ((eT4 D.int D.int D.int D.int) cubic101) :: some ((eV D.int) times102) :: some (D.int below107) :: some ((eP D.int D.int) lowest110) :: g26 :: g27 :: g28 :: g29 :: g30 :: g31 :: g32 :: [])) (ev_cl (c__law_lowest (k := k + 7) hlowest110) (evs_cons (ev_sub (ev_cl (c__law_draw (k := k + 7) hdraw109) (evs_cons (ev_var rfl) (evs_cons (ev_var rfl) (evs_cons (ev_add (ev_mul ev_lit (ev_var rfl) ht108) ev_lit) evs_nil)))) (ev_var rfl)) (evs_cons (ev_var rfl) evs_nil))) rfl ?_
            obtain ⟨produc111, hproduc111, hb_⟩ := ob_inv hb_
            refine wp_asg (e1 := (some .scr :: some .st :: some (D.int x33) :: some ((eV D.int) j46.1) :: none :: some ((eL (eP D.int D.int)) roots53) :: some ((eP D.int D.int) lowest56) :: some (D.int tu68.1) :: some (D.int tu68.2.1) :: some (D.int tu68.2.2.1) :: some (D.int tu68.2.2.2) :: some ((eV D.int) times71) :: some ((eV D.int) times79) :: some (D.int tu89.1) :: some (D.int tu89.2.1) :: some (D.int tu89.2.2.1) :: some (D.int tu89.2.2.2.1) :: some (D.int tu89.2.2.2.2) :: some ((eP D.int D.int) produc111) :: some ((eV D.int) times91) :: some ((eV D.int) l99) :: some ((eT4 D.int D.int D.int D.int) cubic101) :: some ((eV D.int) times102) :: some (D.int below107) :: some ((eP D.int D.int) lowest110) :: g26 :: g27 :: g28 :: g29 :: g30 :: g31 :: g32 :: [])) (ev_cl (c__law_product (k := k + 6) hproduc111) (evs_cons (ev_var rfl) (evs_cons (ev_var rfl) evs_nil))) rfl ?_
            obtain ⟨produc112, hproduc112, hb_⟩ := ob_inv hb_
            obtain ⟨plus113, hplus113, hb_⟩ := ob_inv hb_
            refine wp_asg (e1 := (some .scr :: some .st :: some (D.int x33) :: some ((eV D.int) j46.1) :: none :: some ((eL (eP D.int D.int)) roots53) :: some ((eP D.int D.int) lowest56) :: some (D.int tu68.1) :: some (D.int tu68.2.1) :: some (D.int tu68.2.2.1) :: some (D.int tu68.2.2.2) :: some ((eV D.int) times71) :: some ((eV D.int) times79) :: some (D.int tu89.1) :: some (D.int tu89.2.1) :: some (D.int tu89.2.2.1) :: some (D.int tu89.2.2.2.1) :: some (D.int tu89.2.2.2.2) :: some ((eP D.int D.int) produc111) :: some ((eV D.int) times91) :: some ((eV D.int) l99) :: some ((eT4 D.int D.int D.int D.int) cubic101) :: some ((eV D.int) times102) :: some (D.int below107) :: some ((eP D.int D.int) lowest110) :: some ((eP D.int D.int) plus113) :: g27 :: g28 :: g29 :: g30 :: g31 :: g32 :: [])) (ev_cl (c__law_plus (k := k + 6) hplus113) (evs_cons (ev_cl (c__law_product (k := k + 6) hproduc112) (evs_cons (ev_tu (evs_cons ev_lit (evs_cons ev_lit evs_nil)) rfl) (evs_cons (ev_var rfl) evs_nil))) (evs_cons (ev_tu (evs_cons (ev_neg ev_lit) (evs_cons ev_lit evs_nil)) rfl) evs_nil))) rfl ?_
            obtain ⟨produc114, hproduc114, hb_⟩ := ob_inv hb_
            obtain ⟨produc115, hproduc115, hb_⟩ := ob_inv hb_
            obtain ⟨produc116, hproduc116, hb_⟩ := ob_inv hb_
            obtain ⟨plus117, hplus117, hb_⟩ := ob_inv hb_
            refine wp_asg (e1 := (some .scr :: some .st :: some (D.int x33) :: some ((eV D.int) j46.1) :: none :: some ((eL (eP D.int D.int)) roots53) :: some ((eP D.int D.int) lowest56) :: some (D.int tu68.1) :: some (D.int tu68.2.1) :: some (D.int tu68.2.2.1) :: some (D.int tu68.2.2.2) :: some ((eV D.int) times71) :: some ((eV D.int) times79) :: some (D.int tu89.1) :: some (D.int tu89.2.1) :: some (D.int tu89.2.2.1) :: some (D.int tu89.2.2.2.1) :: some (D.int tu89.2.2.2.2) :: some ((eP D.int D.int) produc111) :: some ((eV D.int) times91) :: some ((eV D.int) l99) :: some ((eT4 D.int D.int D.int D.int) cubic101) :: some ((eV D.int) times102) :: some (D.int below107) :: some ((eP D.int D.int) lowest110) :: some ((eP D.int D.int) plus113) :: some ((eP D.int D.int) plus117) :: g28 :: g29 :: g30 :: g31 :: g32 :: [])) (ev_cl (c__law_plus (k := k + 6) hplus117) (evs_cons (ev_cl (c__law_product (k := k + 6) hproduc115) (evs_cons (ev_tu (evs_cons ev_lit (evs_cons ev_lit evs_nil)) rfl) (evs_cons (ev_cl (c__law_product (k := k + 6) hproduc114) (evs_cons (ev_var rfl) (evs_cons (ev_var rfl) evs_nil))) evs_nil))) (evs_cons (ev_cl (c__law_product (k := k + 6) hproduc116) (evs_cons (ev_tu (evs_cons (ev_neg ev_lit) (evs_cons ev_lit evs_nil)) rfl) (evs_cons (ev_var rfl) evs_nil))) evs_nil))) rfl ?_
            obtain ⟨t118, ht118, hb_⟩ := ob_inv hb_
            obtain ⟨t119, ht119, hb_⟩ := ob_inv hb_
            obtain ⟨trisected120, htrisected120, hb_⟩ := ob_inv hb_
            refine wp_asg (e1 := (some .scr :: some .st :: some (D.int x33) :: some ((eV D.int) j46.1) :: none :: some ((eL (eP D.int D.int)) roots53) :: some ((eP D.int D.int) lowest56) :: some (D.int tu68.1) :: some (D.int tu68.2.1) :: some (D.int tu68.2.2.1) :: some (D.int tu68.2.2.2) :: some ((eV D.int) times71) :: some ((eV D.int) times79) :: some (D.int tu89.1) :: some (D.int tu89.2.1) :: some (D.int tu89.2.2.1) :: some (D.int tu89.2.2.2.1) :: some (D.int tu89.2.2.2.2) :: some ((eP D.int D.int) produc111) :: some ((eV D.int) times91) :: some ((eV D.int) l99) :: some ((eT4 D.int D.int D.int D.int) cubic101) :: some ((eV D.int) times102) :: some (D.int below107) :: some ((eP D.int D.int) lowest110) :: some ((eP D.int D.int) plus113) :: some ((eP D.int D.int) plus117) :: some ((eT4 D.int D.int D.int D.int) trisected120) :: g29 :: g30 :: g31 :: g32 :: [])) (ev_eq (ea := (eT4 D.int D.int D.int D.int)) (t := ((-lowest110.1), t118, (0 : Int), t119)) (ev_tu (evs_cons (ev_neg (ev_ix (ev_var rfl) ev_lit rfl)) (evs_cons (ev_mul (ev_neg ev_lit) (ev_ix (ev_var rfl) ev_lit rfl) ht118) (evs_cons ev_lit (evs_cons (ev_mul ev_lit (ev_ix (ev_var rfl) ev_lit rfl) ht119) evs_nil)))) rfl) htrisected120) rfl ?_
            obtain ⟨roots121, hroots121, hb_⟩ := ob_inv hb_
            obtain ⟨due122, hdue122, hb_⟩ := ob_inv hb_
            refine wp_asg (e1 := (some .scr :: some .st :: some (D.int x33) :: some ((eV D.int) j46.1) :: none :: some ((eL (eP D.int D.int)) roots53) :: some ((eP D.int D.int) lowest56) :: some (D.int tu68.1) :: some (D.int tu68.2.1) :: some (D.int tu68.2.2.1) :: some (D.int tu68.2.2.2) :: some ((eV D.int) times71) :: some ((eV D.int) times79) :: some (D.int tu89.1) :: some (D.int tu89.2.1) :: some (D.int tu89.2.2.1) :: some (D.int tu89.2.2.2.1) :: some (D.int tu89.2.2.2.2) :: some ((eP D.int D.int) produc111) :: some ((eV D.int) times91) :: some ((eV D.int) l99) :: some ((eT4 D.int D.int D.int D.int) cubic101) :: some ((eV D.int) times102) :: some (D.int below107) :: some ((eP D.int D.int) lowest110) :: some ((eP D.int D.int) plus113) :: some ((eP D.int D.int) plus117) :: some ((eT4 D.int D.int D.int D.int) trisected120) :: some ((eH4 (eP D.int D.int) (eP D.int D.int) (eT4 D.int D.int D.int D.int) D.bl) due122) :: g30 :: g31 :: g32 :: [])) (ev_eq (ea := (eH4 (eP D.int D.int) (eP D.int D.int) (eT4 D.int D.int D.int D.int) D.bl)) (t := (plus113, plus117, trisected120, (!(decide (roots121 = ([] : List (Int × Int))))))) (ev_ls (evs_cons (ev_var rfl) (evs_cons (ev_var rfl) (evs_cons (ev_var rfl) (evs_cons (ev_cmp1 (ev_cl (c__law_roots (k := k + 4) hroots121) (evs_cons (ev_var rfl) evs_nil)) (ev_ls evs_nil rfl) (q_ne (ea := (eL (eP D.int D.int))) (x := roots121) (y := ([] : List (Int × Int))) (by decide))) evs_nil)))) rfl) hdue122) rfl ?_
            obtain ⟨double123, hdouble123, hb_⟩ := ob_inv hb_
            obtain ⟨triple124, htriple124, hb_⟩ := ob_inv hb_
            obtain ⟨third_125, hthird_125, hb_⟩ := ob_inv hb_
            obtain ⟨can_th126, hcan_th126, hb_⟩ := ob_inv hb_
            obtain ⟨ex127, hex127, hb_⟩ := ob_inv hb_
            obtain ⟨c130, hc130, hb_⟩ := ob_inv hb_
            refine wp_if (tr_orO hc130 (tr_bl (ev_not (tr_bl (ev_cl (c__law_exact hex127) (evs_cons (ev_var rfl) (evs_cons (ev_ls (evs_cons (ev_cl (c_double_cosine (k := k + 7) hdouble123) (evs_cons (ev_var rfl) evs_nil)) (evs_cons (ev_cl (c_triple_cosine (k := k + 7) htriple124) (evs_cons (ev_var rfl) evs_nil)) (evs_cons (ev_cl (c_third_cubic (k := k + 8) hthird_125) (evs_cons (ev_var rfl) evs_nil)) (evs_cons (ev_cl (c_can_third (k := k + 4) hcan_th126) (evs_cons (ev_var rfl) evs_nil)) evs_nil)))) rfl) evs_nil)))))) (fun hk => by obtain ⟨c129, hc129, hk⟩ := ob_inv hk; cases hk; exact (tr_or1 (tr_andO hc129 (tr_bl (ev_cmp1 (ev_ix (ev_var rfl) ev_lit rfl) ev_lit q_le)) (fun hk => by obtain ⟨can_th128, hcan_th128, hk⟩ := ob_inv hk; cases hk; exact (tr_and1 (tr_bl (ev_not (tr_bl (ev_cl (c_can_third (k := k + 4) hcan_th128) (evs_cons (ev_var rfl) evs_nil))))))))))) ?_ ?_
            · intro hc_
              replace hb_ := cnT hc_ hb_
              cases hb_
              exact wp_ret ev_lit rfl
            · intro hc_
              replace hb_ := cnF hc_ hb_
              refine wp_nil ?_
              change Wp _ _ _ _ _
              obtain ⟨rows131, hrows131, hb_⟩ := ob_inv hb_
              refine wp_asg (e1 := (some .scr :: some .st :: some (D.int x33) :: some ((eV D.int) j46.1) :: none :: some ((eL (eP D.int D.int)) roots53) :: some ((eP D.int D.int) lowest56) :: some (D.int tu68.1) :: some (D.int tu68.2.1) :: some (D.int tu68.2.2.1) :: some (D.int tu68.2.2.2) :: some ((eV D.int) times71) :: some ((eV D.int) times79) :: some (D.int tu89.1) :: some (D.int tu89.2.1) :: some (D.int tu89.2.2.1) :: some (D.int tu89.2.2.2.1) :: some (D.int tu89.2.2.2.2) :: some ((eP D.int D.int) produc111) :: some ((eV D.int) times91) :: some ((eV D.int) l99) :: some ((eT4 D.int D.int D.int D.int) cubic101) :: some ((eV D.int) times102) :: some (D.int below107) :: some ((eP D.int D.int) lowest110) :: some ((eP D.int D.int) plus113) :: some ((eP D.int D.int) plus117) :: some ((eT4 D.int D.int D.int D.int) trisected120) :: some ((eH4 (eP D.int D.int) (eP D.int D.int) (eT4 D.int D.int D.int D.int) D.bl) due122) :: some ((eL (eP D.int D.int)) rows131) :: g31 :: g32 :: [])) (ev_eq (ea := (eL (eP D.int D.int))) (t := ([] : List (Int × Int))) (ev_ls evs_nil rfl) hrows131) rfl ?_
              obtain ⟨rng132, hrng132, hb_⟩ := ob_inv hb_
              obtain ⟨s134, hs134, hb_⟩ := ob_inv hb_
              refine wp_for (d := (eL D.int) rng132) (ea := D.int) (K := fun s133 q_ => ∃ (g135 g136 : Option D), q_ = .nx (some .scr :: some .st :: some (D.int x33) :: some ((eV D.int) j46.1) :: none :: some ((eL (eP D.int D.int)) roots53) :: some ((eP D.int D.int) lowest56) :: some (D.int tu68.1) :: some (D.int tu68.2.1) :: some (D.int tu68.2.2.1) :: some (D.int tu68.2.2.2) :: some ((eV D.int) times71) :: some ((eV D.int) times79) :: some (D.int tu89.1) :: some (D.int tu89.2.1) :: some (D.int tu89.2.2.1) :: some (D.int tu89.2.2.2.1) :: some (D.int tu89.2.2.2.2) :: some ((eP D.int D.int) produc111) :: some ((eV D.int) times91) :: some ((eV D.int) l99) :: some ((eT4 D.int D.int D.int D.int) cubic101) :: some ((eV D.int) times102) :: some (D.int below107) :: some ((eP D.int D.int) lowest110) :: some ((eP D.int D.int) plus113) :: some ((eP D.int D.int) plus117) :: some ((eT4 D.int D.int D.int D.int) trisected120) :: some ((eH4 (eP D.int D.int) (eP D.int D.int) (eT4 D.int D.int D.int D.int) D.bl) due122) :: some ((eL (eP D.int D.int)) s133.1) :: g135 :: g136 :: []) (eS s133.2)) (ev_bi1 ev_lit (b_rng1 hrng132)) itL hs134 ⟨_, _, rfl⟩ ?_ ?_
              · rintro s133 x137 s2_ q_ ⟨g135, g136, rfl⟩ hb_
                refine ⟨_, _, (some .scr :: some .st :: some (D.int x33) :: some ((eV D.int) j46.1) :: none :: some ((eL (eP D.int D.int)) roots53) :: some ((eP D.int D.int) lowest56) :: some (D.int tu68.1) :: some (D.int tu68.2.1) :: some (D.int tu68.2.2.1) :: some (D.int tu68.2.2.2) :: some ((eV D.int) times71) :: some ((eV D.int) times79) :: some (D.int tu89.1) :: some (D.int tu89.2.1) :: some (D.int tu89.2.2.1) :: some (D.int tu89.2.2.2.1) :: some (D.int tu89.2.2.2.2) :: some ((eP D.int D.int) produc111) :: some ((eV D.int) times91) :: some ((eV D.int) l99) :: some ((eT4 D.int D.int D.int D.int) cubic101) :: some ((eV D.int) times102) :: some (D.int below107) :: some ((eP D.int D.int) lowest110) :: some ((eP D.int D.int) plus113) :: some ((eP D.int D.int) plus117) :: some ((eT4 D.int D.int D.int D.int) trisected120) :: some ((eH4 (eP D.int D.int) (eP D.int D.int) (eT4 D.int D.int D.int D.int) D.bl) due122) :: some ((eL (eP D.int D.int)) s133.1) :: some (D.int x137) :: g136 :: []), rfl, rfl, ?_⟩
                obtain ⟨draw138, hdraw138, hb_⟩ := ob_inv hb_
                obtain ⟨draw139, hdraw139, hb_⟩ := ob_inv hb_
                obtain ⟨lowest140, hlowest140, hb_⟩ := ob_inv hb_
                refine wp_asg (e1 := (some .scr :: some .st :: some (D.int x33) :: some ((eV D.int) j46.1) :: none :: some ((eL (eP D.int D.int)) roots53) :: some ((eP D.int D.int) lowest56) :: some (D.int tu68.1) :: some (D.int tu68.2.1) :: some (D.int tu68.2.2.1) :: some (D.int tu68.2.2.2) :: some ((eV D.int) times71) :: some ((eV D.int) times79) :: some (D.int tu89.1) :: some (D.int tu89.2.1) :: some (D.int tu89.2.2.1) :: some (D.int tu89.2.2.2.1) :: some (D.int tu89.2.2.2.2) :: some ((eP D.int D.int) produc111) :: some ((eV D.int) times91) :: some ((eV D.int) l99) :: some ((eT4 D.int D.int D.int D.int) cubic101) :: some ((eV D.int) times102) :: some (D.int below107) :: some ((eP D.int D.int) lowest110) :: some ((eP D.int D.int) plus113) :: some ((eP D.int D.int) plus117) :: some ((eT4 D.int D.int D.int D.int) trisected120) :: some ((eH4 (eP D.int D.int) (eP D.int D.int) (eT4 D.int D.int D.int D.int) D.bl) due122) :: some ((eL (eP D.int D.int)) s133.1) :: some (D.int x137) :: some ((eP D.int D.int) lowest140) :: [])) (ev_cl (c__law_lowest (k := k + 7) hlowest140) (evs_cons (ev_sub (ev_cl (c__law_draw (k := k + 7) hdraw138) (evs_cons (ev_var rfl) (evs_cons (ev_var rfl) (evs_cons ev_lit evs_nil)))) ev_lit) (evs_cons (ev_add ev_lit (ev_cl (c__law_draw (k := k + 7) hdraw139) (evs_cons (ev_var rfl) (evs_cons (ev_var rfl) (evs_cons ev_lit evs_nil))))) evs_nil))) rfl ?_
                obtain ⟨rep141, hrep141, hb_⟩ := ob_inv hb_
                obtain ⟨cat142, hcat142, hb_⟩ := ob_inv hb_
                refine wp_asg (e1 := (some .scr :: some .st :: some (D.int x33) :: some ((eV D.int) j46.1) :: none :: some ((eL (eP D.int D.int)) roots53) :: some ((eP D.int D.int) lowest56) :: some (D.int tu68.1) :: some (D.int tu68.2.1) :: some (D.int tu68.2.2.1) :: some (D.int tu68.2.2.2) :: some ((eV D.int) times71) :: some ((eV D.int) times79) :: some (D.int tu89.1) :: some (D.int tu89.2.1) :: some (D.int tu89.2.2.1) :: some (D.int tu89.2.2.2.1) :: some (D.int tu89.2.2.2.2) :: some ((eP D.int D.int) produc111) :: some ((eV D.int) times91) :: some ((eV D.int) l99) :: some ((eT4 D.int D.int D.int D.int) cubic101) :: some ((eV D.int) times102) :: some (D.int below107) :: some ((eP D.int D.int) lowest110) :: some ((eP D.int D.int) plus113) :: some ((eP D.int D.int) plus117) :: some ((eT4 D.int D.int D.int D.int) trisected120) :: some ((eH4 (eP D.int D.int) (eP D.int D.int) (eT4 D.int D.int D.int D.int) D.bl) due122) :: some ((eL (eP D.int D.int)) cat142) :: some (D.int x137) :: some ((eP D.int D.int) lowest140) :: [])) (ev_catL (ea := (eP D.int D.int)) (ev_var rfl) (ev_rep (ea := (eP D.int D.int)) (ev_ls (evs_cons (ev_var rfl) evs_nil) rfl) (ev_bi1 (ev_cmp1 (ev_var rfl) (ev_var rfl) (q_nmem (ea := (eP D.int D.int)) (x := lowest140) (ys := s133.1) (by decide))) b_intb) hrep141) hcat142) rfl ?_
                cases hb_
                exact wp_nil ⟨_, _, rfl⟩
              rintro q_ ⟨g135, g136, rfl⟩
              change Wp _ _ _ _ _
              obtain ⟨sorted143, hsorted143, hb_⟩ := ob_inv hb_
              obtain ⟨rising144, hrising144, hb_⟩ := ob_inv hb_
              obtain ⟨ex145, hex145, hb_⟩ := ob_inv hb_
              refine wp_if (tr_bl (ev_not (tr_bl (ev_cl (c__law_exact hex145) (evs_cons (ev_cl (c__law_sorted (k := k + 8) hsorted143) (evs_cons (ev_var rfl) evs_nil)) (evs_cons (ev_cl (c_rising (k := k + 8) hrising144) (evs_cons (ev_bi1 (ev_var rfl) (b_listL (ea := (eP D.int D.int)))) evs_nil)) evs_nil)))))) ?_ ?_
              · intro hc_
                replace hb_ := cnT hc_ hb_
                cases hb_
                exact wp_ret ev_lit rfl
              · intro hc_
                replace hb_ := cnF hc_ hb_
                refine wp_nil ?_
                change Wp _ _ _ _ _
                cases hb_
                exact wp_nil ⟨_, _, _, _, _, _, _, _, _, _, _, _, _, _, _, _, _, _, _, _, _, _, _, _, _, _, _, _, _, rfl⟩
  intro q_ hq_
  cases s3 with
  | inl v_ => (cases h; cases hq_; rfl)
  | inr j146 =>
    obtain ⟨g4, g5, g6, g7, g8, g9, g10, g11, g12, g13, g14, g15, g16, g17, g18, g19, g20, g21, g22, g23, g24, g25, g26, g27, g28, g29, g30, g31, g32, rfl⟩ := hq_
    change Wp _ _ _ _ _
    obtain ⟨can_th147, hcan_th147, h⟩ := ob_inv h
    obtain ⟨c155, hc155, h⟩ := ob_inv h
    cases h
    exact wp_ret (ev_andO hc155 (ev_not (tr_bl (ev_cl (c_can_third (k := k + 4) hcan_th147) (evs_cons (ev_tu (evs_cons ev_lit (evs_cons ev_lit evs_nil)) rfl) evs_nil)))) (fun hk => by obtain ⟨can_th148, hcan_th148, hk⟩ := ob_inv hk; obtain ⟨c154, hc154, hk⟩ := ob_inv hk; cases hk; exact (ev_andO hc154 (ev_cl (c_can_third (k := k + 4) hcan_th148) (evs_cons (ev_tu (evs_cons ev_lit (evs_cons ev_lit evs_nil)) rfl) evs_nil)) (fun hk => by obtain ⟨is_dra149, his_dra149, hk⟩ := ob_inv hk; obtain ⟨c153, hc153, hk⟩ := ob_inv hk; cases hk; exact (ev_andO hc153 (ev_not (tr_bl (ev_cl (c_is_drawn_cubic (k := k + 5) his_dra149) (evs_cons (ev_tu (evs_cons (ev_neg ev_lit) (evs_cons ev_lit (evs_cons ev_lit (evs_cons ev_lit evs_nil)))) rfl) evs_nil)))) (fun hk => by obtain ⟨is_dra150, his_dra150, hk⟩ := ob_inv hk; obtain ⟨c152, hc152, hk⟩ := ob_inv hk; cases hk; exact (ev_andO hc152 (ev_not (tr_bl (ev_cl (c_is_drawn_quartic (k := k + 5) his_dra150) (evs_cons (ev_tu (evs_cons ev_lit (evs_cons ev_lit (evs_cons ev_lit (evs_cons ev_lit (evs_cons ev_lit evs_nil))))) rfl) evs_nil)))) (fun hk => by obtain ⟨is_dra151, his_dra151, hk⟩ := ob_inv hk; cases hk; exact (ev_and1 (ev_cl (c_is_drawn_quartic (k := k + 5) his_dra151) (evs_cons (ev_tu (evs_cons (ev_neg ev_lit) (evs_cons ev_lit (evs_cons ev_lit (evs_cons ev_lit (evs_cons ev_lit evs_nil))))) rfl) evs_nil))))))))))) rfl
end Zz.K68
namespace Zz.K68
open PySem
open Rt (fr Sz Bd hor push cand Fnd strip)
theorem e_lowest : o_lowest = Rt.o_lowest := rfl
theorem e_worth : o_worth = Rt.o_worth := rfl
theorem e_worth2 : o_worth_2 = Rt.o_worth := rfl
theorem e_roots : o_rational_roots = Rt.o_rational_roots := rfl
theorem e_rising : o_rising = Rt.o_rising := rfl
theorem e_llow : o__law_lowest = Rt.o__law_lowest := rfl
theorem e_plus : o__law_plus = Rt.o__law_plus := rfl
theorem e_prod : o__law_product = Rt.o__law_product := rfl
theorem e_times : o__law_times = Rt.o__law_times := rfl
/-! ### the law's own worth -/
theorem lworth4 {a b c d : Int} {x : Rat} (ha : Bd 30 a) (hb : Bd 30 b) (hc : Bd 30 c) (hd : Bd 30 d) (hx : Sz 30 x) : o__law_worth [a, b, c, d] (fr x) = some (fr (hor [a, b, c, d] x)) := by
  have step : ∀ {n m : Nat} {T P : Rat} {z : Int}, Sz n T → Sz m P → Bd 30 z → n + m ≤ 4000 → (ob (Rt.o__law_product (z, (1 : Int)) (fr P)) fun produc7 => ob (Rt.o__law_plus (fr T) produc7) fun plus8 => ob (Rt.o__law_product (fr P) (fr x)) fun produc9 => some (plus8, produc9)) = some (fr (T + (z : Rat) * P), fr (P * x)) := fun hT hP hz hn => by
    have sz := Rt.szi hz
    have sp := Rt.sz_mul sz hP
    rw [← Rt.fr_int, Rt.product_ok sz hP (by omega), ob_some, Rt.plus_ok hT sp (by omega), ob_some, Rt.product_ok hP hx (by omega), ob_some]
  have sP0 := Rt.sz1
  have sP1 := Rt.sz_mul sP0 hx
  have sP2 := Rt.sz_mul sP1 hx
  have sP3 := Rt.sz_mul sP2 hx
  have sT1 := Rt.sz_add Rt.sz0 (Rt.sz_mul (Rt.szi ha) sP0)
  have sT2 := Rt.sz_add sT1 (Rt.sz_mul (Rt.szi hb) sP1)
  have sT3 := Rt.sz_add sT2 (Rt.sz_mul (Rt.szi hc) sP2)
  unfold o__law_worth
  simp only [e_prod, e_plus]
  rw [ob_some, ob_some, Rt.fr0, Rt.fr1]
  simp only [forO]
  rw [step Rt.sz0 sP0 ha (by omega), ob_some]
  dsimp only
  rw [step sT1 sP1 hb (by omega), ob_some]
  dsimp only
  rw [step sT2 sP2 hc (by omega), ob_some]
  dsimp only
  rw [step sT3 sP3 hd (by omega), ob_some, ob_some]
  congr 2
  simp only [hor]
  grind
/-! ### the law's own order -/
theorem spots_len {α : Type} {c : Int → Option Bool} {p : α → Bool} : ∀ {xs : List α} {k : Nat}, (∀ (i : Nat) x, xs[i]? = some x → c ((k + i : Nat) : Int) = some (p x)) → ∃ l : List Int, flO c (fun x => some x) (rng (k : Int) xs.length) = some l ∧ l.length = (xs.filter p).length
  | [], _, _ => ⟨[], rfl, rfl⟩
  | x :: xs, k, h => by
    obtain ⟨l, h1, h2⟩ := spots_len (xs := xs) (k := k + 1) fun i y hy => by
      have := h (i + 1) y (by simpa using hy)
      rw [show k + 1 + i = k + (i + 1) by omega]; exact this
    have h0 := h 0 x rfl
    simp only [Nat.add_zero] at h0
    rw [List.length_cons, rng]
    unfold flO
    rw [h0, ob_some, show (k : Int) + 1 = ((k + 1 : Nat) : Int) by omega, h1, List.filter_cons]
    cases p x with
    | true => exact ⟨(k : Int) :: l, rfl, by simp [h2]⟩
    | false => exact ⟨l, rfl, by simp [h2]⟩
theorem split_lt (x : Rat) : ∀ {l : List Rat}, l.Pairwise (· < ·) → l = l.filter (fun y => decide (y < x)) ++ l.filter (fun y => !decide (y < x))
  | [], _ => rfl
  | y :: l, h => by
    rw [List.pairwise_cons] at h
    have ih := split_lt x h.2
    by_cases q : y < x
    · rw [List.filter_cons, List.filter_cons, decide_eq_true q]
      simp only [if_true, Bool.not_true, Bool.false_eq_true, if_false, List.cons_append]
      rw [← ih]
    · have hn : ∀ z, z ∈ l → ¬ z < x := fun z hz hzx => q (Rt.rlt_trans (h.1 z hz) hzx)
      have e1 : l.filter (fun y => decide (y < x)) = [] := List.filter_eq_nil_iff.mpr fun z hz => by simpa using hn z hz
      have e2 : l.filter (fun y => !decide (y < x)) = l := List.filter_eq_self.mpr fun z hz => by simpa using hn z hz
      rw [List.filter_cons, List.filter_cons, decide_eq_false q, e1, e2]; rfl
def ins (x : Rat) (l : List Rat) : List Rat := l.filter (fun y => decide (y < x)) ++ x :: l.filter (fun y => !decide (y < x))
theorem ins_asc {x : Rat} {l : List Rat} (h : l.Pairwise (· < ·)) (hx : x ∉ l) : (ins x l).Pairwise (· < ·) := by
  unfold ins
  rw [List.pairwise_append, List.pairwise_cons]
  refine ⟨h.filter _, ⟨fun y hy => ?_, h.filter _⟩, fun a ha b hb => ?_⟩
  · obtain ⟨h1, h2⟩ := List.mem_filter.mp hy
    have : ¬ y < x := by simpa using h2
    exact Rat.lt_of_le_of_ne (Rat.not_lt.mp this) (fun e => hx (e ▸ h1))
  · obtain ⟨h1, h2⟩ := List.mem_filter.mp ha
    have h2 : a < x := by simpa using h2
    rcases List.mem_cons.mp hb with rfl | hb
    · exact h2
    · obtain ⟨h3, h4⟩ := List.mem_filter.mp hb
      have : ¬ b < x := by simpa using h4
      have := Rat.not_lt.mp this
      grind
theorem ins_mem {x y : Rat} {l : List Rat} : y ∈ ins x l ↔ y = x ∨ y ∈ l := by
  unfold ins
  rw [List.mem_append, List.mem_cons, List.mem_filter, List.mem_filter]
  by_cases q : y < x <;> simp [q] <;> grind
theorem ins_len {x : Rat} {l : List Rat} (h : l.Pairwise (· < ·)) : (ins x l).length = l.length + 1 := by
  have := congrArg List.length (split_lt x h)
  unfold ins
  rw [List.length_append] at this
  rw [List.length_append, List.length_cons]; omega
theorem cut_r {α : Type} (A B : List α) : cutT (A ++ B) (some (A.length : Int)) none = B := by
  have hl : cutIx (A ++ B).length 0 (some (A.length : Int)) = A.length := by
    show (if 0 ≤ (A.length : Int) then min (A.length : Int).toNat (A ++ B).length else ((A.length : Int) + ((A ++ B).length : Int)).toNat) = A.length
    rw [if_pos (by omega), List.length_append]; omega
  have hh : cutIx (A ++ B).length (A ++ B).length none = A.length + B.length := by
    unfold cutIx; exact List.length_append
  unfold cutT
  simp only [hl, hh]
  rw [List.drop_left, Nat.add_sub_cancel_left, List.take_length]
theorem lsorted_go : ∀ (xs out : List Rat), xs.Nodup → (∀ x, x ∈ xs → x ∉ out) → out.Pairwise (· < ·) → (∀ x, x ∈ xs → Sz 100 x) → (∀ x, x ∈ out → Sz 100 x) → xs.length + out.length ≤ 90000 →
    ∃ l : List Rat, forO (σ := List (Int × Int)) (fun s2 x6 =>
    ob (orng1 (s2.length : Int)) fun rng7 =>
    ob (flO (fun x8 => ob (oget s2 x8) fun g9 => ob (omul g9.1 x6.2) fun t10 => ob (oget s2 x8) fun g11 => ob (omul x6.1 g11.2) fun t12 => some (decide (t10 < t12))) (fun x8 => some x8) rng7) fun l13 =>
    ob (olen l13) fun l14 =>
    ob (olen ((cutT s2 none (some (l14.length : Int))) ++ ([x6] : List (Int × Int)))) fun cat15 =>
    ob (olen (cat15 ++ (cutT s2 (some (l14.length : Int)) none))) fun cat16 =>
    some cat16) (xs.map fr) (out.map fr) = some (l.map fr) ∧ l.Pairwise (· < ·) ∧ ∀ x, x ∈ l ↔ x ∈ out ∨ x ∈ xs
  | [], out, _, _, ho, _, _, _ => ⟨out, rfl, ho, fun x => by simp⟩
  | x :: xs, out, hd, hn, ho, hs, hso, hl => by
    rw [List.nodup_cons] at hd
    rw [List.length_cons] at hl
    have hx := hs x List.mem_cons_self
    have hxo := hn x List.mem_cons_self
    obtain ⟨l, g1, g2, g3⟩ := lsorted_go xs (ins x out) hd.2 (fun y hy hy2 => by
        rcases ins_mem.mp hy2 with rfl | hy2
        · exact hd.1 hy
        · exact hn y (List.mem_cons_of_mem _ hy) hy2) (ins_asc ho hxo) (fun y hy => hs y (List.mem_cons_of_mem _ hy)) (fun y hy => by
        rcases ins_mem.mp hy with rfl | hy
        · exact hx
        · exact hso y hy) (by rw [ins_len ho]; omega)
    refine ⟨l, ?_, g2, fun y => ?_⟩
    · rw [List.map_cons]
      unfold forO
      obtain ⟨sp, h1, h2⟩ := spots_len (c := fun x8 => ob (oget (out.map fr) x8) fun g9 => ob (omul g9.1 (fr x).2) fun t10 => ob (oget (out.map fr) x8) fun g11 => ob (omul (fr x).1 g11.2) fun t12 => some (decide (t10 < t12))) (p := fun y => decide (y < x)) (xs := out) (k := 0) fun i y hy => by
        have hg : oget (out.map fr) ((0 + i : Nat) : Int) = some (fr y) := oget_ok (by rw [Nat.zero_add, List.getElem?_map, hy]; rfl)
        have sy := hso y (List.mem_of_getElem? hy)
        simp only [hg, ob_some, fr]
        rw [omul_sz' sy hx, ob_some, omul_sz' hx sy, ob_some]
        congr 1
        rw [decide_eq_decide]; exact (Rat.lt_iff y x).symm
      have hlen : (out.map fr).length = out.length := List.length_map _
      rw [hlen, Zz.orng1_ok (by omega), ob_some]
      have h1 : flO (fun x8 => ob (oget (out.map fr) x8) fun g9 => ob (omul g9.1 (fr x).2) fun t10 => ob (oget (out.map fr) x8) fun g11 => ob (omul (fr x).1 g11.2) fun t12 => some (decide (t10 < t12))) (fun x8 => some x8) (rng 0 out.length) = some sp := h1
      have hfl := List.length_filter_le (fun y => decide (y < x)) out
      rw [h1, ob_some, olen_ok (by omega), ob_some]
      have hA : cutT (out.map fr) none (some (sp.length : Int)) = (out.filter (fun y => decide (y < x))).map fr := by
        conv => lhs; rw [split_lt x ho]
        unfold cutT cutIx
        rw [h2]
        simp
      have hB : cutT (out.map fr) (some (sp.length : Int)) none = (out.filter (fun y => !decide (y < x))).map fr := by
        conv => lhs; rw [split_lt x ho]
        have := cut_r ((out.filter (fun y => decide (y < x))).map fr) ((out.filter (fun y => !decide (y < x))).map fr)
        rw [List.length_map, ← h2, ← List.map_append] at this
        exact this
      rw [hA, olen_ok (by rw [List.length_append, List.length_map]; simp; omega), ob_some, hB]
      have hC : (out.filter (fun y => decide (y < x))).map fr ++ [fr x] ++ (out.filter (fun y => !decide (y < x))).map fr = (ins x out).map fr := by
        unfold ins
        rw [List.map_append, List.map_cons, List.append_assoc]; rfl
      have hil := ins_len (x := x) ho
      rw [hC, olen_ok (by rw [List.length_map]; omega), ob_some, ob_some]
      exact g1
    · rw [g3, ins_mem, List.mem_cons]
      constructor
      · rintro ((h | h) | h)
        · exact .inr (.inl h)
        · exact .inl h
        · exact .inr (.inr h)
      · rintro (h | h | h)
        · exact .inl (.inr h)
        · exact .inl (.inl h)
        · exact .inr h
where omul_sz' {x y : Rat} (hx : Sz 100 x) (hy : Sz 100 y) : omul x.num (y.den : Int) = some (x.num * (y.den : Int)) := Rt.omul_bd hx.num hy.den (by omega)
theorem lsorted_ok {xs : List Rat} (hd : xs.Nodup) (hs : ∀ x, x ∈ xs → Sz 100 x) (hl : xs.length ≤ 80000) : ∃ l : List Rat, o__law_sorted (xs.map fr) = some (l.map fr) ∧ l.Pairwise (· < ·) ∧ ∀ x, x ∈ l ↔ x ∈ xs := by
  obtain ⟨l, h1, h2, h3⟩ := lsorted_go xs [] hd (fun _ _ h => by cases h) List.Pairwise.nil hs (fun _ h => by cases h) (by simp; omega)
  refine ⟨l, ?_, h2, fun x => by rw [h3]; simp⟩
  unfold o__law_sorted
  rw [ob_some]
  exact ob_of h1 rfl
/-! ### the law's own roots -/
theorem filt_head : ∀ {row : List Int} {s0 : Int} {t : List Int}, strip row = s0 :: t → s0 ≠ 0 → ∃ rest, (row.filter fun x => (!(decide (x = (0 : Int))))).map (fun x => x) = s0 :: rest ∧ rest.length ≤ row.length
  | [], _, _, h, _ => by cases h
  | a :: r, s0, t, h, h0 => by
    by_cases e : a = 0
    · rw [strip, if_pos e] at h
      obtain ⟨rest, h1, h2⟩ := filt_head h h0
      refine ⟨rest, ?_, by rw [List.length_cons]; omega⟩
      rw [List.filter_cons, decide_eq_true e]
      exact h1
    · rw [strip, if_neg e] at h
      cases h
      refine ⟨(r.filter fun x => (!(decide (x = (0 : Int))))).map (fun x => x), ?_, by rw [List.length_map, List.length_cons]; have := List.length_filter_le (fun x : Int => (!(decide (x = (0 : Int))))) r; omega⟩
      rw [List.filter_cons, decide_eq_false e]; rfl
theorem divs_ok {f : Int} (hf : f.natAbs ≤ 1000000) (h0 : f ≠ 0) : ∃ D : List Int, orng2 (1 : Int) (absT f + 1) = some (rng 1 f.natAbs) ∧ (∀ x, x ∈ rng 1 f.natAbs → ∃ q, odiv f x = some q ∧ omul q x = some (q * x) ∧ (q * x = f ↔ x ∣ f)) ∧ D = (rng 1 f.natAbs).filter (fun x => decide (divI f x * x = f)) ∧ (∀ d, d ∈ D ↔ 1 ≤ d ∧ d ≤ (f.natAbs : Int) ∧ d ∣ f) ∧ D.length ≤ 1000000 := by
  have ea : absT f = (f.natAbs : Int) := by unfold absT; split <;> omega
  refine ⟨(rng 1 f.natAbs).filter (fun x => decide (divI f x * x = f)), ?_, fun x hx => ?_, rfl, fun d => ?_, Nat.le_trans (List.length_filter_le _ _) (by rw [len_rng]; exact hf)⟩
  · rw [ea]
    unfold orng2
    have : (ok62 1 && ok62 ((f.natAbs : Int) + 1) && lenOk ((f.natAbs : Int) + 1 - 1).toNat) = true := by simp only [ok62, lenOk, Bool.and_eq_true, decide_eq_true_eq]; omega
    rw [if_pos this, show ((f.natAbs : Int) + 1 - 1).toNat = f.natAbs by omega]
  · have := mem_rng.mp hx
    refine ⟨divI f x, Rt.odiv_ok (by omega) (Nat.lt_of_le_of_lt (show x.natAbs ≤ 1000000 by omega) (Nat.lt_of_lt_of_le (show 1000000 < 2 ^ 20 by decide) (Rt.pow_le (by omega)))), omul_r (by omega), ?_⟩
    unfold divI
    rw [if_pos (by omega)]
    exact ⟨fun h => ⟨f / x, by rw [Int.mul_comm]; exact h.symm⟩, fun h => Int.ediv_mul_cancel h⟩
  · rw [List.mem_filter, mem_rng, decide_eq_true_eq]
    constructor
    · rintro ⟨⟨a, b⟩, c⟩
      unfold divI at c
      rw [if_pos (by omega)] at c
      exact ⟨a, by omega, ⟨f / d, by rw [Int.mul_comm]; exact c.symm⟩⟩
    · rintro ⟨a, b, c⟩
      refine ⟨⟨a, by omega⟩, ?_⟩
      unfold divI
      rw [if_pos (by omega)]
      exact Int.ediv_mul_cancel c
theorem lroots_ok {a b c d : Int} (h0 : d ≠ 0) (ha : a.natAbs ≤ 1000000) (hb : b.natAbs ≤ 1000000) (hc : c.natAbs ≤ 1000000) (hd : d.natAbs ≤ 1000000) :
    ∃ l : List Rat, o__law_roots [a, b, c, d] = some (l.map fr) ∧ l.Pairwise (· < ·) ∧ (∀ x, x ∈ l ↔ hor [a, b, c, d] x = 0) ∧ l.length ≤ 4 := by
  obtain ⟨row, hrow⟩ : ∃ row, row = [a, b, c, d] := ⟨_, rfl⟩
  have hl : row.getLast? = some d := by rw [hrow]; rfl
  have hm : ∀ z, z ∈ row → z.natAbs ≤ 1000000 := fun z hz => by
    rw [hrow] at hz
    have : z = a ∨ z = b ∨ z = c ∨ z = d := by simpa using hz
    rcases this with rfl | rfl | rfl | rfl <;> assumption
  have hBd : ∀ z, z ∈ row → Bd 30 z := fun z hz => by
    unfold Bd; exact Nat.lt_of_le_of_lt (hm z hz) (by decide)
  obtain ⟨s0, t, hS, hs0, hSl, hSm, hSn, hSr⟩ := Rt.strip_is row d hl h0
  obtain ⟨rest, hf1, hf2⟩ := filt_head hS hs0
  have bs0 := hm s0 (hSm s0 (by rw [hS]; exact List.mem_cons_self))
  obtain ⟨D1, r1, q1, eD1, m1, n1⟩ := divs_ok bs0 hs0
  obtain ⟨D2, r2, q2, eD2, m2, n2⟩ := divs_ok hd h0
  obtain ⟨T0, hT0⟩ : ∃ T0 : List Rat, T0 = if a = 0 then [0] else [] := ⟨_, rfl⟩
  have hr0 : hor row 0 = (a : Rat) := by rw [hrow]; exact Rt.hor_zero a [b, c, d]
  have F0 : Fnd row row T0 := by
    rw [hT0]
    split
    · rename_i e
      have k : ∀ x : Rat, x ∈ [(0 : Rat)] → x = 0 := fun x hx => by simpa using hx
      exact ⟨by simp, fun x hx => (by rw [k x hx, hr0, e]; rfl), fun x hx => (by rw [k x hx]; exact Rt.sz0.mono (by omega))⟩
    · exact ⟨List.nodup_nil, fun x hx => (by cases hx), fun x hx => (by cases hx)⟩
  have hcd : ∀ sg p q : Int, sg ∈ [(1 : Int), -1] → p ∈ D1 → q ∈ D2 → cand sg p q ≠ 0 ∧ Sz 30 (cand sg p q) ∧ q ≠ 0 ∧ q.natAbs < 2 ^ 20 := fun sg p q h1 h2 h3 => by
    obtain ⟨a1, a2, _⟩ := (m1 p).mp h2
    obtain ⟨b1, b2, _⟩ := (m2 q).mp h3
    have hs : sg = 1 ∨ sg = -1 := by simpa using h1
    have hsa : (sg * p).natAbs = p.natAbs := by rcases hs with e | e <;> rw [e] <;> simp
    have hp : (sg * p).natAbs < 2 ^ 20 := by rw [hsa]; omega
    have hq : q.natAbs < 2 ^ 20 := by omega
    refine ⟨fun e => ?_, (Rt.sz_of (n := 20) (by omega) rfl hp hq).mono (by omega), by omega, hq⟩
    have hbR : (q : Rat) ≠ 0 := fun e => by have := Rt.cast_inj (b := 0) e; omega
    have : ((sg * p : Int) : Rat) = 0 := by unfold cand at e; grind
    have := Rt.cast_inj (b := 0) this
    rw [this] at hsa
    simp at hsa; omega
  have step : ∀ (s : List (Int × Int)) (T : List Rat) (x : Rat), x ≠ 0 → Sz 30 x → (s = T.map fr ∧ Fnd row row T) → ∃ s', (ob (bif (!(memT (fr x) s)) then (ob (o__law_worth row (fr x)) fun worth38 => some (decide (worth38 = ((0 : Int), (1 : Int))))) else (some false)) fun c39 =>
    ob (orep ([fr x] : List (Int × Int)) (b2i c39)) fun rep40 =>
    ob (olen (s ++ rep40)) fun cat41 =>
    some cat41) = some s' ∧ s' = (push row T x).map fr ∧ Fnd row row (push row T x) := fun s T x hx0 sx ⟨hs, hF⟩ => by
    refine ⟨_, ?_, rfl, hF.push hx0 Iff.rfl sx⟩
    have hlen := hF.len hl h0
    have hlen : T.length ≤ 4 := by rw [hrow] at hlen; exact hlen
    have hw : o__law_worth row (fr x) = some (fr (hor row x)) := by
      rw [hrow]
      exact lworth4 (hBd a (by rw [hrow]; simp)) (hBd b (by rw [hrow]; simp)) (hBd c (by rw [hrow]; simp)) (hBd d (by rw [hrow]; simp)) sx
    have hb1 : (bif (!(memT (fr x) s)) then (ob (o__law_worth row (fr x)) fun worth38 => some (decide (worth38 = ((0 : Int), (1 : Int))))) else (some false)) = some (decide (x ∉ T ∧ hor row x = 0)) := by
      rw [hs, Rt.memT_fr, hw, ob_some]
      have hz : decide (fr (hor row x) = ((0 : Int), (1 : Int))) = decide (hor row x = 0) := by
        rw [decide_eq_decide, Rt.fr0, Rt.fr_inj]
      rw [hz]
      by_cases k1 : x ∈ T
      · have h1 : decide (x ∈ T) = true := decide_eq_true k1
        have h2 : decide (x ∉ T ∧ hor row x = 0) = false := decide_eq_false (fun z => z.1 k1)
        rw [h1, h2]; rfl
      · have h1 : decide (x ∈ T) = false := decide_eq_false k1
        by_cases k2 : hor row x = 0
        · have h2 : decide (x ∉ T ∧ hor row x = 0) = true := decide_eq_true ⟨k1, k2⟩
          have h3 : decide (hor row x = 0) = true := decide_eq_true k2
          rw [h1, h2, h3]; rfl
        · have h2 : decide (x ∉ T ∧ hor row x = 0) = false := decide_eq_false (fun z => k2 z.2)
          have h3 : decide (hor row x = 0) = false := decide_eq_false k2
          rw [h1, h2, h3]; rfl
    rw [hb1, ob_some]
    by_cases k : x ∉ T ∧ hor row x = 0
    · rw [decide_eq_true k]
      have : orep ([fr x] : List (Int × Int)) (b2i true) = some [fr x] := rfl
      rw [this, ob_some, olen_ok (by rw [hs]; simp; omega), ob_some, hs, show push row T x = T ++ [x] from if_pos k, List.map_append]; rfl
    · rw [decide_eq_false k]
      have : orep ([fr x] : List (Int × Int)) (b2i false) = some [] := rfl
      rw [this, ob_some, olen_ok (by rw [hs]; simp; omega), ob_some, hs, show push row T x = T from if_neg k, List.append_nil]
  obtain ⟨TF, hTF⟩ : ∃ TF : List Rat, TF = D1.foldl (fun T p => D2.foldl (fun T q => [(1 : Int), -1].foldl (fun T sg => push row T (cand sg p q)) T) T) T0 := ⟨_, rfl⟩
  have hg3 : oget row ((row.length : Int) - (1 : Int)) = some d := by rw [hrow]; exact oget_ok (n := 3) rfl
  have hfl : ∀ (f : Int) (D : List Int), D = (rng 1 f.natAbs).filter (fun x => decide (divI f x * x = f)) → (∀ x, x ∈ rng 1 f.natAbs → ∃ q, odiv f x = some q ∧ omul q x = some (q * x) ∧ (q * x = f ↔ x ∣ f)) → ∀ x, x ∈ rng 1 f.natAbs → (ob (odiv f x) fun t8 => ob (omul t8 x) fun t9 => some (decide (t9 = f))) = some (decide (divI f x * x = f)) := fun f D _ h x hx => by
    obtain ⟨q, e1, e2, _⟩ := h x hx
    have e3 : divI f x = q := by
      unfold odiv at e1
      exact (if_inv e1).2
    rw [e1, ob_some, e2, ob_some, e3]
  obtain ⟨sf, hsf, hsf2, hF⟩ := Rt.forO_rel (f := fun s12 x17 =>
    ob (oget row ((row.length : Int) - (1 : Int))) fun g18 =>
    ob (orng2 (1 : Int) ((absT g18) + (1 : Int))) fun rng19 =>
    ob (flO (fun x20 => ob (oget row ((row.length : Int) - (1 : Int))) fun g21 => ob (odiv g21 x20) fun t22 => ob (omul t22 x20) fun t23 => ob (oget row ((row.length : Int) - (1 : Int))) fun g24 => some (decide (t23 = g24))) (fun x20 => some x20) rng19) fun l25 =>
    ob (olen l25) fun l26 =>
    ob (forO (σ := List (Int × Int)) (fun s27 x31 =>
    ob (o__law_lowest x17 x31) fun lowest32 =>
    ob (o__law_lowest (-x17) x31) fun lowest33 =>
    ob (forO (σ := List (Int × Int)) (fun s34 x37 =>
    ob (bif (!(memT x37 s34)) then (ob (o__law_worth row x37) fun worth38 => some (decide (worth38 = ((0 : Int), (1 : Int))))) else (some false)) fun c39 =>
    ob (orep ([x37] : List (Int × Int)) (b2i c39)) fun rep40 =>
    ob (olen (s34 ++ rep40)) fun cat41 =>
    some cat41) ([lowest32, lowest33]) s27) fun s35 =>
    some s35) l26 s12) fun s28 =>
    some s28) (g := fun T p => D2.foldl (fun T q => [(1 : Int), -1].foldl (fun T sg => push row T (cand sg p q)) T) T) (fun s T => s = T.map fr ∧ Fnd row row T) (xs := D1) (s := T0.map fr) (t := T0) (fun s T p hp hR => by
      have hfl2 : flO (fun x20 => ob (some d) fun g21 => ob (odiv g21 x20) fun t22 => ob (omul t22 x20) fun t23 => ob (some d) fun g24 => some (decide (t23 = g24))) (fun x20 => some x20) (rng 1 d.natAbs) = some D2 := by
        rw [eD2]
        exact Rt.flO_id fun x hx => by
          have := hfl d D2 eD2 q2 x hx
          simp only [ob_some]
          exact this
      have hoD2 : olen D2 = some D2 := if_pos (by simp only [lenOk, decide_eq_true_eq]; omega)
      rw [hg3, ob_some, r2, ob_some, hfl2, ob_some, hoD2, ob_some]
      obtain ⟨s', h1, h2⟩ := Rt.forO_rel (f := fun s27 x31 =>
        ob (o__law_lowest p x31) fun lowest32 =>
        ob (o__law_lowest (-p) x31) fun lowest33 =>
        ob (forO (σ := List (Int × Int)) (fun s34 x37 =>
        ob (bif (!(memT x37 s34)) then (ob (o__law_worth row x37) fun worth38 => some (decide (worth38 = ((0 : Int), (1 : Int))))) else (some false)) fun c39 =>
        ob (orep ([x37] : List (Int × Int)) (b2i c39)) fun rep40 =>
        ob (olen (s34 ++ rep40)) fun cat41 =>
        some cat41) ([lowest32, lowest33]) s27) fun s35 =>
        some s35) (g := fun T q => [(1 : Int), -1].foldl (fun T sg => push row T (cand sg p q)) T) (fun s T => s = T.map fr ∧ Fnd row row T) (xs := D2) (s := s) (t := T) (fun s T q hq hR => by
          obtain ⟨c1, c2, c3, c4⟩ := hcd 1 p q (by simp) hp hq
          obtain ⟨d1, d2, _, _⟩ := hcd (-1) p q (by simp) hp hq
          have l1 : o__law_lowest p q = some (fr (cand 1 p q)) := by
            rw [e_llow, Rt.llowest_ok c3 (Nat.lt_of_lt_of_le c4 (Rt.pow_le (by omega)))]
            unfold cand; rw [Int.one_mul]
          have l2 : o__law_lowest (-p) q = some (fr (cand (-1) p q)) := by
            rw [e_llow, Rt.llowest_ok c3 (Nat.lt_of_lt_of_le c4 (Rt.pow_le (by omega)))]
            unfold cand; rw [Int.neg_mul, Int.one_mul]
          rw [l1, ob_some, l2, ob_some]
          obtain ⟨s1, g1, g2⟩ := step s T (cand 1 p q) c1 c2 hR
          obtain ⟨s2, g3, g4⟩ := step s1 (push row T (cand 1 p q)) (cand (-1) p q) d1 d2 g2
          refine ⟨s2, ?_, g4⟩
          simp only [forO]
          rw [g1, ob_some, g3, ob_some, ob_some]) hR
      exact ⟨s', ob_of h1 rfl, h2⟩) ⟨rfl, F0⟩
  rw [← hTF] at hsf2 hF
  obtain ⟨l, hl1, hl2, hl3⟩ := lsorted_ok hF.nd (fun x hx => (hF.z x hx).mono (by omega)) (by have := hF.len hl h0; rw [hrow] at this; have : TF.length ≤ 4 := this; omega)
  have hlen4 : l.length ≤ 4 := by
    have h4 := hF.len hl h0
    rw [hrow] at h4
    have nd : l.Nodup := hl2.imp (fun {a b} (h : a < b) (e : a = b) => by subst e; exact absurd h (Rat.not_lt.mpr (Rat.le_refl)))
    have := ((List.perm_ext_iff_of_nodup nd hF.nd).mpr hl3).length_eq
    have h4 : TF.length ≤ 4 := h4
    omega
  refine ⟨l, ?_, hl2, fun x => ?_, hlen4⟩
  · rw [← hrow]
    unfold o__law_roots
    have ho1 : olen ((row.filter fun x1 => (!(decide (x1 = (0 : Int))))).map fun x1 => x1) = some (s0 :: rest) := by
      rw [hf1]
      refine olen_ok ?_
      rw [hrow] at hf2
      have : rest.length ≤ 4 := hf2
      rw [List.length_cons]; omega
    have hg0 : oget row (0 : Int) = some a := by rw [hrow]; exact Rt.oget_0
    have hfl1 : flO (fun x7 => ob (odiv s0 x7) fun t8 => ob (omul t8 x7) fun t9 => some (decide (t9 = s0))) (fun x7 => some x7) (rng 1 s0.natAbs) = some D1 := by
      rw [eD1]
      exact Rt.flO_id (hfl s0 D1 eD1 q1)
    have hoD1 : olen D1 = some D1 := if_pos (by simp only [lenOk, decide_eq_true_eq]; omega)
    have hT : (bif (decide (a = (0 : Int))) then ([((0 : Int), (1 : Int))] : List (Int × Int)) else ([] : List (Int × Int))) = T0.map fr := by
      rw [hT0]
      by_cases e : a = 0
      · rw [decide_eq_true e, if_pos e]; rfl
      · rw [decide_eq_false e, if_neg e]; rfl
    rw [ho1, ob_some, Rt.oget_0, ob_some, hg0, ob_some, ob_some, hT, r1, ob_some, hfl1, ob_some, hoD1, ob_some]
    refine ob_of hsf ?_
    rw [hsf2, hl1, ob_some]
  · rw [hl3, ← hrow]
    constructor
    · exact hF.r x
    · intro hx
      rw [hTF]
      by_cases x0 : x = 0
      · have ha0 : a = 0 := by
          rw [x0, hr0] at hx
          exact Rt.cast_inj (b := 0) hx
        refine Rt.foldl_keep (fun T => x ∈ T) (fun T p _ h => Rt.foldl_keep (fun T => x ∈ T) (fun T q _ h => Rt.foldl_keep (fun T => x ∈ T) (fun T sg _ h => Rt.push_sub h) h) h) ?_
        rw [hT0, if_pos ha0, x0]; simp
      · have hxS := (hSr x x0).mp hx
        have hn0 := Rt.num_ne x0
        have hd1 : x.num ∣ s0 := by rw [hS] at hxS; exact Rt.root_first hxS
        have hd2 : (x.den : Int) ∣ d := by
          rw [hrow] at hx
          exact Rt.root_last (r := [a, b, c]) hx
        have pd := Rt.den_pos x
        have ma : (x.num.natAbs : Int) ∈ D1 := (m1 _).mpr ⟨by omega, by
          have := Nat.le_of_dvd (by omega) (Int.natAbs_dvd_natAbs.mpr hd1); omega, Int.ofNat_dvd_left.mpr (Int.natAbs_dvd_natAbs.mpr hd1)⟩
        have mb : (x.den : Int) ∈ D2 := (m2 _).mpr ⟨by omega, by
          have := Nat.le_of_dvd (by omega) (Int.natAbs_dvd_natAbs.mpr hd2); simp at this; omega, hd2⟩
        obtain ⟨sg, hsg, e⟩ : ∃ sg : Int, sg ∈ [(1 : Int), -1] ∧ cand sg (x.num.natAbs : Int) (x.den : Int) = x := by
          rcases Int.natAbs_eq x.num with h | h
          · exact ⟨1, by simp, by unfold cand; rw [Int.one_mul, ← h]; exact (Rt.eq_nd x).symm⟩
          · exact ⟨-1, by simp, by unfold cand; rw [Int.neg_mul, Int.one_mul, ← h]; exact (Rt.eq_nd x).symm⟩
        refine Rt.foldl_get (fun T => x ∈ T) (x0 := (x.num.natAbs : Int)) (fun T p _ h => Rt.foldl_keep (fun T => x ∈ T) (fun T q _ h => Rt.foldl_keep (fun T => x ∈ T) (fun T sg _ h => Rt.push_sub h) h) h) (fun T => ?_) ma
        refine Rt.foldl_get (fun T => x ∈ T) (x0 := (x.den : Int)) (fun T q _ h => Rt.foldl_keep (fun T => x ∈ T) (fun T sg _ h => Rt.push_sub h) h) (fun T => ?_) mb
        refine Rt.foldl_get (fun T => x ∈ T) (x0 := sg) (fun T sg _ h => Rt.push_sub h) (fun T => ?_) hsg
        rw [e]
        exact Rt.push_get hx
end Zz.K68
namespace Zz.K68
open PySem
open Rt (fr Sz Bd hor)
theorem mul_le {p q : Int} {n m : Nat} (hp : p.natAbs ≤ n) (hq : q.natAbs ≤ m) : (p * q).natAbs ≤ n * m := by rw [Int.natAbs_mul]; exact Nat.mul_le_mul hp hq
theorem add_le {p q : Int} {n m : Nat} (hp : p.natAbs ≤ n) (hq : q.natAbs ≤ m) : (p + q).natAbs ≤ n + m := by omega
theorem pl_LP {xs : List (Int × Int)} {n : Nat} (hl : xs.length ≤ 100000) : Zz.pl (n + 3) (eL (eP D.int D.int) xs) = true := by
  have k : ∀ (xs : List (Int × Int)), Zz.pls (n + 2) (xs.map (eP D.int D.int)) = true := by
    intro xs
    induction xs with
    | nil => simp [Zz.pls]
    | cons x xs ih =>
      rw [List.map_cons]
      simp only [Zz.pls, eP, Zz.pl, ih, List.length_cons, List.length_nil, Bool.true_and, Bool.and_true]
      rfl
  simp only [eL, Zz.pl, k xs, List.length_map, Bool.true_and, decide_eq_true_eq]
  exact hl
theorem hor4 (a b c d : Int) (x : Rat) : hor [a, b, c, d] x = a + x * (b + x * (c + x * d)) := by
  simp only [hor]; grind
/-- both roads find the same roots -/
theorem both {a b c d : Int} (h0 : d ≠ 0) (ha : a.natAbs ≤ 1000000) (hb : b.natAbs ≤ 1000000) (hc : c.natAbs ≤ 1000000) (hd : d.natAbs ≤ 1000000) :
    ∃ l : List Rat, o__law_roots [a, b, c, d] = some (l.map fr) ∧ o_rational_roots [a, b, c, d] = some (l.map fr) ∧ (∀ x, x ∈ l ↔ hor [a, b, c, d] x = 0) ∧ l.length ≤ 4 := by
  obtain ⟨l, h1, h2, h3, h4⟩ := lroots_ok h0 ha hb hc hd
  obtain ⟨r, g1, g2, g3, _⟩ := Rt.roots_ok (row := [a, b, c, d]) (L := d) rfl h0 (fun z hz => by
    simp only [List.mem_cons, List.not_mem_nil, or_false] at hz
    rcases hz with e | e | e | e <;> rw [e] <;> assumption) (by simp)
  have : l = r := Rt.asc_uniq h2 g2 fun x => by rw [h3, g3]
  subst this
  exact ⟨l, h1, by rw [e_roots]; exact g1, h3, h4⟩
theorem lenb {l : List Rat} : decide ((0 : Int) < ((l.map fr).length : Int)) = !(decide (l.map fr = ([] : List (Int × Int)))) := by
  cases l with
  | nil => rfl
  | cons a l => 
    have h1 : decide ((0 : Int) < (((a :: l).map fr).length : Int)) = true := decide_eq_true (by rw [List.map_cons, List.length_cons]; omega)
    have h2 : decide ((a :: l).map fr = ([] : List (Int × Int))) = false := decide_eq_false (by rw [List.map_cons]; simp)
    rw [h1, h2]; rfl
theorem isn {l : List Rat} : (!(decide (l.map fr = ([] : List (Int × Int))))) = true ↔ ∃ x, x ∈ l := by
  cases l with
  | nil => simp
  | cons a l => simp
/-! ### products -/
theorem t22 {p0 p1 q0 q1 : Int} (h0 : p0.natAbs < 18446744073709551616) (h1 : p1.natAbs < 18446744073709551616) : o__law_times [p0, p1] [q0, q1] = some [p0 * q0, p0 * q1 + p1 * q0, p1 * q1] := by
  rw [e_times, Rt.ltimes_ok (by simp) (by simp) (by simp) (by simp) (fun c hc => by
    simp only [List.mem_cons, List.not_mem_nil, or_false] at hc
    rcases hc with e | e <;> rw [e] <;> assumption)]
  simp [Rt.rows, Rt.updAt, Rt.G]
theorem t23 {p0 p1 q0 q1 q2 : Int} (h0 : p0.natAbs < 18446744073709551616) (h1 : p1.natAbs < 18446744073709551616) : o__law_times [p0, p1] [q0, q1, q2] = some [p0 * q0, p0 * q1 + p1 * q0, p0 * q2 + p1 * q1, p1 * q2] := by
  rw [e_times, Rt.ltimes_ok (by simp) (by simp) (by simp) (by simp) (fun c hc => by
    simp only [List.mem_cons, List.not_mem_nil, or_false] at hc
    rcases hc with e | e <;> rw [e] <;> assumption)]
  simp [Rt.rows, Rt.updAt, Rt.G]
theorem t24 {p0 p1 q0 q1 q2 q3 : Int} (h0 : p0.natAbs < 18446744073709551616) (h1 : p1.natAbs < 18446744073709551616) : o__law_times [p0, p1] [q0, q1, q2, q3] = some [p0 * q0, p0 * q1 + p1 * q0, p0 * q2 + p1 * q1, p0 * q3 + p1 * q2, p1 * q3] := by
  rw [e_times, Rt.ltimes_ok (by simp) (by simp) (by simp) (by simp) (fun c hc => by
    simp only [List.mem_cons, List.not_mem_nil, or_false] at hc
    rcases hc with e | e <;> rw [e] <;> assumption)]
  simp [Rt.rows, Rt.updAt, Rt.G]
theorem t33 {p0 p1 p2 q0 q1 q2 : Int} (h0 : p0.natAbs < 18446744073709551616) (h1 : p1.natAbs < 18446744073709551616) (h2 : p2.natAbs < 18446744073709551616) : o__law_times [p0, p1, p2] [q0, q1, q2] = some [p0 * q0, p0 * q1 + p1 * q0, p0 * q2 + p1 * q1 + p2 * q0, p1 * q2 + p2 * q1, p2 * q2] := by
  rw [e_times, Rt.ltimes_ok (by simp) (by simp) (by simp) (by simp) (fun c hc => by
    simp only [List.mem_cons, List.not_mem_nil, or_false] at hc
    rcases hc with e | e | e <;> rw [e] <;> assumption)]
  simp [Rt.rows, Rt.updAt, Rt.G]
theorem t32 {p0 p1 p2 q0 q1 : Int} (h0 : p0.natAbs < 18446744073709551616) (h1 : p1.natAbs < 18446744073709551616) (h2 : p2.natAbs < 18446744073709551616) : o__law_times [p0, p1, p2] [q0, q1] = some [p0 * q0, p0 * q1 + p1 * q0, p1 * q1 + p2 * q0, p2 * q1] := by
  rw [e_times, Rt.ltimes_ok (by simp) (by simp) (by simp) (by simp) (fun c hc => by
    simp only [List.mem_cons, List.not_mem_nil, or_false] at hc
    rcases hc with e | e | e <;> rw [e] <;> assumption)]
  simp [Rt.rows, Rt.updAt, Rt.G]
/-! ### the resolvent -/
theorem res_ok {d c b a e : Int} (hd : d.natAbs ≤ 256) (hc : c.natAbs ≤ 256) (ha : a.natAbs ≤ 16) : o_resolvent [d, c, b, a, e] = some [4 * b * d - a * a * d - c * c, a * c - 4 * d, -b, 1] := by
  unfold o_resolvent
  have : o5 [d, c, b, a, e] = some (d, c, b, a, e) := rfl
  rw [this, ob_some]
  dsimp only
  rw [omul_l (by omega), ob_some, omul_r (by omega), ob_some, omul_l (by omega), ob_some, omul_r (by omega), ob_some, omul_r (by omega), ob_some, omul_r (by omega), ob_some, omul_r (by omega), ob_some]
theorem quart_ok {d c b a e : Int} (hd : d.natAbs ≤ 256) (hc : c.natAbs ≤ 256) (hb : b.natAbs ≤ 96) (ha : a.natAbs ≤ 16) :
    ∃ l : List Rat, o_is_drawn_quartic [d, c, b, a, e] = some (!(decide (l.map fr = ([] : List (Int × Int))))) ∧ ∀ x, x ∈ l ↔ hor [4 * b * d - a * a * d - c * c, a * c - 4 * d, -b, 1] x = 0 := by
  have m1 := mul_le (p := 4 * b) (n := 4 * 96) (by omega) hd
  have m2 := mul_le (mul_le ha ha) hd
  have m3 := mul_le hc hc
  have m4 := mul_le ha hc
  obtain ⟨l, h1, h2, h3, h4⟩ := both (a := 4 * b * d - a * a * d - c * c) (b := a * c - 4 * d) (c := -b) (d := 1) (by omega) (by omega) (by omega) (by omega) (by omega)
  refine ⟨l, ?_, h3⟩
  unfold o_is_drawn_quartic
  rw [res_ok hd hc ha, ob_some, h2, ob_some, lenb]
/-! ### a cubic and one more root -/
theorem mix (P A B C : Rat) : (∃ x, C + x * (B + x * (A + x * 1)) = 0) ↔ ∃ th, (4 * (B - P * A) * (-P * C) - (A - P) * (A - P) * (-P * C) - (C - P * B) * (C - P * B)) + th * (((A - P) * (C - P * B) - 4 * (-P * C)) + th * (-(B - P * A) + th * 1)) = 0 := by
  constructor
  · rintro ⟨x, h⟩
    exact ⟨x * x + (A + P) * x + B, by grind⟩
  · rintro ⟨th, h⟩
    by_cases r1 : th + P * A + P * P = 0
    · exact ⟨P, by
        have e : th = -(P * A) - P * P := by grind
        subst e
        have : (C + P * (B + P * (A + P * 1))) * (C + P * (B + P * (A + P * 1))) = 0 := by grind
        grind⟩
    · obtain ⟨y, hy⟩ : ∃ y, y * (th + P * A + P * P) + (C + P * (B - th)) = 0 := ⟨-(C + P * (B - th)) / (th + P * A + P * P), by grind⟩
      exact ⟨y, by
        have k : (th + P * A + P * P) * (th + P * A + P * P) * (y * y + (A + P) * y + (B - th)) = 0 := by grind
        have k2 : y * y + (A + P) * y + (B - th) = 0 := by grind
        grind⟩
end Zz.K68
namespace Zz.K68
open PySem
open Rt (fr Sz Bd hor)
theorem len3 {α : Type} {l : List α} (h : l.length = 3) : ∃ a b c, l = [a, b, c] := by
  match l, h with
  | [a, b, c], _ => exact ⟨a, b, c, rfl⟩
theorem len4 {α : Type} {l : List α} (h : l.length = 4) : ∃ a b c d, l = [a, b, c, d] := by
  match l, h with
  | [a, b, c, d], _ => exact ⟨a, b, c, d, rfl⟩
theorem len5 {α : Type} {l : List α} (h : l.length = 5) : ∃ a b c d e, l = [a, b, c, d, e] := by
  match l, h with
  | [a, b, c, d, e], _ => exact ⟨a, b, c, d, e, rfl⟩
theorem forO_cnt {σ α : Type} {f : σ → α → Option σ} (R : Nat → σ → Prop) (N : Nat) : ∀ {xs : List α} {n : Nat} {s : σ}, n + xs.length ≤ N → (∀ n s x, n < N → R n s → Ok (f s x) (R (n + 1))) → R n s → Ok (forO f xs s) (R (n + xs.length))
  | [], n, s, _, _, h => ok_some h
  | x :: xs, n, s, hN, k, h => by
    rw [List.length_cons] at hN
    unfold forO
    refine ok_ob (k n s x (by omega) h) fun y hy => ?_
    have := forO_cnt R N (xs := xs) (by omega) k hy
    rw [List.length_cons, show n + (xs.length + 1) = n + 1 + xs.length by omega]
    exact this
theorem drawn_of {row : List Int} {l : List Rat} (h : o_rational_roots row = some (l.map fr)) : o_is_drawn_cubic row = some (!(decide (l.map fr = ([] : List (Int × Int))))) := by
  unfold o_is_drawn_cubic
  rw [h, ob_some, lenb]
theorem b7 {z : Int} (h : z.natAbs ≤ 100) : Bd 30 z := Nat.lt_of_le_of_lt h (by decide)
theorem low_ok {p q : Int} (hq : q ≠ 0) (h : q.natAbs < 2 ^ 30) : o__law_lowest p q = some (fr ((p : Rat) / (q : Rat))) := by
  rw [e_llow]; exact Rt.llowest_ok hq (Nat.lt_of_lt_of_le h (Rt.pow_le (by omega)))
theorem worth2_ok {a b c d : Int} {x : Rat} (ha : Bd 30 a) (hb : Bd 30 b) (hc : Bd 30 c) (hd : Bd 30 d) (hx : Sz 30 x) : o_worth_2 [a, b, c, d] (fr x) = some (fr (hor [a, b, c, d] x)) := by
  rw [e_worth2]
  exact Rt.worth_row (row := [a, b, c, d]) hx (fun z hz => by
    simp only [List.mem_cons, List.not_mem_nil, or_false] at hz
    rcases hz with e | e | e | e <;> rw [e] <;> assumption) (by simp)
/-! ### part B -/
theorem sm {z : Int} {n : Nat} (h : z.natAbs ≤ n) (k : n ≤ 1000000) : z.natAbs < 18446744073709551616 := Nat.lt_of_le_of_lt h (Nat.lt_of_le_of_lt k (by decide))
theorem sm1 : (1 : Int).natAbs < 18446744073709551616 := by decide
theorem lin2 {x y : Int} (hx : x.natAbs ≤ 100) : o__law_times [-x, 1] [-y, 1] = some [x * y, -(x + y), 1] := by
  rw [t22 (sm (n := 100) (by omega) (by omega)) sm1]
  refine congrArg some ?_
  simp only [List.cons.injEq, and_true]
  refine ⟨by grind, by grind, by grind⟩
theorem four {p q r s : Int} (hp : p.natAbs ≤ 4) (hq : q.natAbs ≤ 4) (hr : r.natAbs ≤ 4) (hs : s.natAbs ≤ 4) : ∃ U V d c b a X Y Z W,
    o__law_times [-p, 1] [-q, 1] = some U ∧ o__law_times [-r, 1] [-s, 1] = some V ∧ o__law_times U V = some [d, c, b, a, 1] ∧
    o__law_times [-(p * q + r * s), 1] [-(p * r + q * s), 1] = some W ∧ o__law_times W [-(p * s + q * r), 1] = some [X, Y, Z, 1] ∧
    o_resolvent [d, c, b, a, 1] = some [X, Y, Z, 1] ∧ o_is_drawn_quartic [d, c, b, a, 1] = some true := by
  have w1 : (p * q).natAbs ≤ 16 := mul_le hp hq
  have w2 : (r * s).natAbs ≤ 16 := mul_le hr hs
  have w3 : (p * r).natAbs ≤ 16 := mul_le hp hr
  have w4 : (q * s).natAbs ≤ 16 := mul_le hq hs
  have w5 : (p * s).natAbs ≤ 16 := mul_le hp hs
  have w6 : (q * r).natAbs ≤ 16 := mul_le hq hr
  have v1 : (p + q).natAbs ≤ 8 := add_le hp hq
  have v2 : (r + s).natAbs ≤ 8 := add_le hr hs
  have y1 : (p * q * (r * s)).natAbs ≤ 256 := mul_le w1 w2
  have y2 : (p * q * (r + s)).natAbs ≤ 128 := mul_le w1 v2
  have y3 : ((p + q) * (r * s)).natAbs ≤ 128 := mul_le v1 w2
  have y4 : ((p + q) * (r + s)).natAbs ≤ 64 := mul_le v1 v2
  have A1 : (p * q + r * s).natAbs ≤ 32 := add_le w1 w2
  have A2 : (p * r + q * s).natAbs ≤ 32 := add_le w3 w4
  have A3 : (p * s + q * r).natAbs ≤ 32 := add_le w5 w6
  have z1 : ((p * q + r * s) * (p * r + q * s)).natAbs ≤ 1024 := mul_le A1 A2
  have z2 : (-(p * q + r * s + (p * r + q * s))).natAbs ≤ 64 := by rw [Int.natAbs_neg]; exact add_le A1 A2
  have n2 : (-(p * q * (r + s) + (p + q) * (r * s))).natAbs ≤ 256 := by rw [Int.natAbs_neg]; exact add_le y2 y3
  have n3 : (p * q + (p + q) * (r + s) + r * s).natAbs ≤ 96 := add_le (add_le w1 y4) w2
  have n4 : (-(p + q + (r + s))).natAbs ≤ 16 := by rw [Int.natAbs_neg]; exact add_le v1 v2
  have n5 : (-(p + q)).natAbs ≤ 8 := by rw [Int.natAbs_neg]; exact v1
  have hU := lin2 (x := p) (y := q) (Nat.le_trans hp (by decide))
  have hV := lin2 (x := r) (y := s) (Nat.le_trans hr (by decide))
  have hT : o__law_times [p * q, -(p + q), 1] [r * s, -(r + s), 1] = some [p * q * (r * s), -(p * q * (r + s) + (p + q) * (r * s)), p * q + (p + q) * (r + s) + r * s, -(p + q + (r + s)), 1] := by
    rw [t33 (sm w1 (by decide)) (sm n5 (by decide)) sm1]
    refine congrArg some ?_
    simp only [List.cons.injEq, and_true]
    clear w1 w2 w3 w4 w5 w6 v1 v2 y1 y2 y3 y4 A1 A2 A3 z1 z2 n2 n3 n4 n5 hU hV hp hq hr hs
    and_intros <;> grind
  have hW := lin2 (x := p * q + r * s) (y := p * r + q * s) (Nat.le_trans A1 (by decide))
  have hX : o__law_times [(p * q + r * s) * (p * r + q * s), -(p * q + r * s + (p * r + q * s)), 1] [-(p * s + q * r), 1] = some [-((p * q + r * s) * (p * r + q * s) * (p * s + q * r)), (p * q + r * s) * (p * r + q * s) + (p * q + r * s + (p * r + q * s)) * (p * s + q * r), -(p * q + r * s + (p * r + q * s) + (p * s + q * r)), 1] := by
    rw [t32 (sm z1 (by decide)) (sm z2 (by decide)) sm1]
    refine congrArg some ?_
    simp only [List.cons.injEq, and_true]
    clear w1 w2 w3 w4 w5 w6 v1 v2 y1 y2 y3 y4 A1 A2 A3 z1 z2 n2 n3 n4 n5 hU hV hp hq hr hs hW hT
    generalize p * q + r * s = S1
    generalize p * r + q * s = S2
    generalize p * s + q * r = S3
    and_intros <;> grind
  obtain ⟨l, q1, q2⟩ := quart_ok (e := 1) y1 n2 n3 n4
  have hres := res_ok (b := p * q + (p + q) * (r + s) + r * s) (e := 1) y1 n2 n4
  clear w1 w2 w3 w4 w5 w6 v1 v2 y1 y2 y3 y4 A1 A2 A3 z1 z2 n2 n3 n4 n5 hp hq hr hs
  have eq1 : 4 * (p * q + (p + q) * (r + s) + r * s) * (p * q * (r * s)) - -(p + q + (r + s)) * -(p + q + (r + s)) * (p * q * (r * s)) - -(p * q * (r + s) + (p + q) * (r * s)) * -(p * q * (r + s) + (p + q) * (r * s)) = -((p * q + r * s) * (p * r + q * s) * (p * s + q * r)) := by grind
  have eq2 : -(p + q + (r + s)) * -(p * q * (r + s) + (p + q) * (r * s)) - 4 * (p * q * (r * s)) = (p * q + r * s) * (p * r + q * s) + (p * q + r * s + (p * r + q * s)) * (p * s + q * r) := by grind
  have eq3 : -(p * q + (p + q) * (r + s) + r * s) = -(p * q + r * s + (p * r + q * s) + (p * s + q * r)) := by grind
  rw [eq1, eq2, eq3] at hres q2
  refine ⟨_, _, _, _, _, _, _, _, _, _, hU, hV, hT, hW, hX, hres, ?_⟩
  rw [q1]
  refine congrArg some (isn.mpr ⟨((p * q + r * s : Int) : Rat), (q2 _).mpr ?_⟩)
  rw [hor4]
  generalize p * q + r * s = S1
  generalize p * r + q * s = S2
  generalize p * s + q * r = S3
  simp only [Rat.intCast_add, Rat.intCast_mul, Rat.intCast_sub, Rat.intCast_neg]
  grind
end Zz.K68
namespace Zz.K68
open PySem
open Rt (fr Sz Bd hor)
/-! ### part C -/
theorem built_ok {a b c d n : Int} (ha : a.natAbs ≤ 3) (hb : b.natAbs ≤ 3) (hc : c.natAbs ≤ 3) (hd : d.natAbs ≤ 3) (hn : n.natAbs ≤ 3) : ∃ T90 T91 L,
    o__law_times [b, a, 1] [b, a, 1] = some T90 ∧ o__law_times [d, c] [d, c] = some T91 ∧
    mpO (fun x93 => ob (oget T90 x93) fun g94 => ob (bif (decide (x93 < (3 : Int))) then (ob (oget T91 x93) fun g95 => some g95) else (some (0 : Int))) fun i96 => ob (omul n i96) fun t97 => some (g94 - t97)) (rng 0 5) = some L ∧ L.length = 5 ∧ o_is_drawn_quartic L = some true := by
  have h1 := t33 (p0 := b) (p1 := a) (p2 := 1) (q0 := b) (q1 := a) (q2 := 1) (sm hb (by decide)) (sm ha (by decide)) sm1
  have h2 := t22 (p0 := d) (p1 := c) (q0 := d) (q1 := c) (sm hd (by decide)) (sm hc (by decide))
  have hm : ∀ z, omul n z = some (n * z) := fun z => omul_l (sm hn (by decide))
  have a1 : (b * b).natAbs ≤ 9 := mul_le hb hb
  have a2 : (d * d).natAbs ≤ 9 := mul_le hd hd
  have a3 : (b * a).natAbs ≤ 9 := mul_le hb ha
  have a4 : (d * c).natAbs ≤ 9 := mul_le hd hc
  have a5 : (a * a).natAbs ≤ 9 := mul_le ha ha
  have a6 : (c * c).natAbs ≤ 9 := mul_le hc hc
  have sub : ∀ {x y : Int} {k m : Nat}, x.natAbs ≤ k → y.natAbs ≤ m → (x - y).natAbs ≤ k + m := fun h g => by omega
  have e0 : (b * b - n * (d * d)).natAbs ≤ 256 := Nat.le_trans (sub a1 (mul_le hn a2)) (by decide)
  have e1 : (2 * (b * a) - n * (2 * (d * c))).natAbs ≤ 256 := Nat.le_trans (sub (mul_le (n := 2) (p := 2) (by decide) a3) (mul_le hn (mul_le (n := 2) (p := 2) (by decide) a4))) (by decide)
  have e2 : (2 * b + a * a - n * (c * c)).natAbs ≤ 96 := Nat.le_trans (sub (add_le (mul_le (n := 2) (p := 2) (by decide) hb) a5) (mul_le hn a6)) (by decide)
  have e3 : (2 * a).natAbs ≤ 16 := Nat.le_trans (mul_le (n := 2) (p := 2) (by decide) ha) (by decide)
  obtain ⟨l, q1, q2⟩ := quart_ok (e := 1) e0 e1 e2 e3
  clear a1 a2 a3 a4 a5 a6 e0 e1 e2 e3 ha hb hc hd
  refine ⟨_, _, [b * b - n * (d * d), 2 * (b * a) - n * (2 * (d * c)), 2 * b + a * a - n * (c * c), 2 * a, 1], h1, h2, ?_, rfl, ?_⟩
  · refine (mpO_map (g := fun x : Int => Rt.G [b * b - n * (d * d), 2 * (b * a) - n * (2 * (d * c)), 2 * b + a * a - n * (c * c), 2 * a, 1] x.toNat) fun x hx => ?_).trans rfl
    have := mem_rng.mp hx
    rcases (show x = 0 ∨ x = 1 ∨ x = 2 ∨ x = 3 ∨ x = 4 by omega) with e | e | e | e | e <;> subst e
    · show ob (oget _ ((0 : Nat) : Int)) _ = _
      rw [oget_ok (n := 0) rfl, ob_some]
      rw [show decide ((0 : Int) < 3) = true from rfl, cond_true, Rt.oget_0, ob_some, ob_some]
      rw [hm, ob_some]; rfl
    · show ob (oget _ ((1 : Nat) : Int)) _ = _
      rw [oget_ok (n := 1) rfl, ob_some]
      rw [show decide ((1 : Int) < 3) = true from rfl, cond_true, Rt.oget_1, ob_some, ob_some, hm, ob_some]
      exact congrArg some (by show b * a + a * b - n * (d * c + c * d) = 2 * (b * a) - n * (2 * (d * c)); grind)
    · show ob (oget _ ((2 : Nat) : Int)) _ = _
      rw [oget_ok (n := 2) rfl, ob_some]
      rw [show decide ((2 : Int) < 3) = true from rfl, cond_true, Rt.oget_2, ob_some, ob_some, hm, ob_some]
      exact congrArg some (by show b * 1 + a * a + 1 * b - n * (c * c) = 2 * b + a * a - n * (c * c); grind)
    · show ob (oget _ ((3 : Nat) : Int)) _ = _
      rw [oget_ok (n := 3) rfl, ob_some]
      show ob (some (0 : Int)) _ = _
      rw [ob_some, hm, ob_some]
      exact congrArg some (by show a * 1 + 1 * a - n * 0 = 2 * a; grind)
    · show ob (oget _ ((4 : Nat) : Int)) _ = _
      rw [oget_ok (n := 4) rfl, ob_some]
      show ob (some (0 : Int)) _ = _
      rw [ob_some, hm, ob_some]
      exact congrArg some (by show 1 * 1 - n * 0 = 1; grind)
  · rw [q1]
    refine congrArg some (isn.mpr ⟨((2 * b : Int) : Rat), (q2 _).mpr ?_⟩)
    rw [hor4]
    simp only [Rat.intCast_add, Rat.intCast_mul, Rat.intCast_sub, Rat.intCast_neg]
    clear q1 q2 h1 h2 hm
    generalize (a : Rat) = a
    generalize (b : Rat) = b
    generalize (c : Rat) = c
    generalize (d : Rat) = d
    generalize (n : Rat) = n
    have i4 : ((4 : Int) : Rat) = 4 := rfl
    have i2 : ((2 : Int) : Rat) = 2 := rfl
    have i1 : ((1 : Int) : Rat) = 1 := rfl
    rw [i4, i2, i1]
    grind
/-! ### part D -/
theorem mixed_ok {k b c p : Int} (hk : k.natAbs ≤ 6) (hb : b.natAbs ≤ 3) (hc : c.natAbs ≤ 3) (hp : p.natAbs ≤ 4) : ∃ M l,
    o__law_times [-p, 1] [k, b, c, 1] = some M ∧ o__law_roots [k, b, c, 1] = some ((l : List Rat).map fr) ∧ o_is_drawn_quartic M = some (!(decide (l.map fr = ([] : List (Int × Int))))) := by
  have sub : ∀ {x y : Int} {k m : Nat}, x.natAbs ≤ k → y.natAbs ≤ m → (x - y).natAbs ≤ k + m := fun h g => by omega
  have e0 : (-(p * k)).natAbs ≤ 256 := by rw [Int.natAbs_neg]; exact Nat.le_trans (mul_le hp hk) (by decide)
  have e1 : (k - p * b).natAbs ≤ 256 := Nat.le_trans (sub hk (mul_le hp hb)) (by decide)
  have e2 : (b - p * c).natAbs ≤ 96 := Nat.le_trans (sub hb (mul_le hp hc)) (by decide)
  have e3 : (c - p).natAbs ≤ 16 := Nat.le_trans (sub hc hp) (by decide)
  obtain ⟨l2, q1, q2⟩ := quart_ok (e := 1) e0 e1 e2 e3
  obtain ⟨l, r1, _, r3, _⟩ := both (a := k) (b := b) (c := c) (d := 1) (by decide) (by omega) (by omega) (by omega) (by decide)
  have h1 : o__law_times [-p, 1] [k, b, c, 1] = some [-(p * k), k - p * b, b - p * c, c - p, 1] := by
    rw [t24 (sm (n := 4) (by omega) (by decide)) sm1]
    refine congrArg some ?_
    simp only [List.cons.injEq, and_true]
    clear e0 e1 e2 e3 q1 q2 r1 r3 hk hb hc hp
    and_intros <;> grind
  refine ⟨_, l, h1, r1, ?_⟩
  rw [q1]
  refine congrArg some (Bool.eq_iff_iff.mpr ?_)
  rw [isn, isn]
  simp only [q2, r3, hor4, Rat.intCast_add, Rat.intCast_mul, Rat.intCast_sub, Rat.intCast_neg]
  have i4 : ((4 : Int) : Rat) = 4 := rfl
  have i1 : ((1 : Int) : Rat) = 1 := rfl
  rw [i4, i1]
  have := mix (p : Rat) (c : Rat) (b : Rat) (k : Rat)
  refine Iff.trans ?_ this.symm
  have e : -((p : Rat) * (k : Rat)) = -(p : Rat) * (k : Rat) := by grind
  simp only [e]
/-! ### part E -/
theorem third_ok {z : Rat} (h1 : z.num.natAbs ≤ 1000000) (h2 : z.den ≤ 250000) : ∃ l : List Rat,
    o_third_cubic (fr z) = some [-(fr z).1, -(3 : Int) * (fr z).2, 0, (4 : Int) * (fr z).2] ∧
    o__law_roots [-(fr z).1, -(3 : Int) * (fr z).2, 0, (4 : Int) * (fr z).2] = some (l.map fr) ∧ o_can_third (fr z) = some (!(decide (l.map fr = ([] : List (Int × Int))))) ∧ (∀ x, x ∈ l ↔ 4 * x * x * x - 3 * x = z) := by
  have pd := Rt.den_pos z
  have b1 : (-(fr z).1).natAbs ≤ 1000000 := by rw [Int.natAbs_neg]; exact h1
  have b2 : (-(3 : Int) * (fr z).2).natAbs ≤ 1000000 := by show (-(3 : Int) * (z.den : Int)).natAbs ≤ 1000000; omega
  have b3 : ((4 : Int) * (fr z).2).natAbs ≤ 1000000 := by show ((4 : Int) * (z.den : Int)).natAbs ≤ 1000000; omega
  have b4 : (4 : Int) * (fr z).2 ≠ 0 := by show (4 : Int) * (z.den : Int) ≠ 0; omega
  obtain ⟨l, r1, r2, r3, _⟩ := both (a := -(fr z).1) (b := -(3 : Int) * (fr z).2) (c := 0) (d := (4 : Int) * (fr z).2) b4 b1 b2 (by decide) b3
  have ht : o_third_cubic (fr z) = some [-(fr z).1, -(3 : Int) * (fr z).2, 0, (4 : Int) * (fr z).2] := by
    unfold o_third_cubic
    rw [omul_l (by decide), ob_some, omul_l (by decide), ob_some]
  refine ⟨l, ht, r1, ?_, fun x => ?_⟩
  · unfold o_can_third
    rw [ht, ob_some, drawn_of r2, ob_some]
  · rw [r3, hor4]
    have e : z = (z.num : Rat) / ((z.den : Int) : Rat) := Rt.eq_nd z
    have hd : ((z.den : Int) : Rat) ≠ 0 := fun h => by have := Rt.cast_inj (b := 0) h; omega
    show ((-z.num : Int) : Rat) + x * (((-(3 : Int) * (z.den : Int) : Int) : Rat) + x * (((0 : Int) : Rat) + x * (((4 : Int) * (z.den : Int) : Int) : Rat))) = 0 ↔ _
    simp only [Rat.intCast_mul, Rat.intCast_neg]
    have i4 : ((4 : Int) : Rat) = 4 := rfl
    have i3 : ((3 : Int) : Rat) = 3 := rfl
    have i0 : ((0 : Int) : Rat) = 0 := rfl
    rw [i4, i3, i0]
    generalize (z.num : Rat) = N at e ⊢
    generalize ((z.den : Int) : Rat) = D at e hd ⊢
    constructor
    · intro h; grind
    · intro h; grind
theorem double_ok {t : Rat} (st : Sz 5 t) : o_double_cosine (fr t) = some (fr (((2 : Int) : Rat) * (t * t) + ((-(1 : Int) : Int) : Rat))) := by
  have pd := Rt.den_pos t
  obtain ⟨s1, s2⟩ := st
  have hn : t.num.natAbs ≤ 31 := by omega
  have hd : t.den ≤ 31 := by omega
  have hdd : ((t.den : Int) * (t.den : Int)).natAbs ≤ 961 := mul_le (n := 31) (m := 31) (by omega) (by omega)
  have hdn : (t.den : Int) * (t.den : Int) ≠ 0 := Int.mul_ne_zero (by omega) (by omega)
  unfold o_double_cosine
  show ob (omul 2 t.num) _ = _
  rw [omul_l (by decide), ob_some]
  show ob (omul (2 * t.num) t.num) _ = _
  rw [omul_r (sm hn (by decide)), ob_some]
  show ob (omul (t.den : Int) (t.den : Int)) _ = _
  rw [omul_r (sm (n := 31) (by omega) (by decide)), ob_some]
  show ob (omul (t.den : Int) (t.den : Int)) _ = _
  rw [omul_r (sm (n := 31) (by omega) (by decide)), ob_some, e_lowest, Rt.lowest_ok hdn (Nat.lt_of_le_of_lt hdd (Nat.lt_of_lt_of_le (show 961 < 2 ^ 10 by decide) (Rt.pow_le (by omega)))), ob_some]
  have e : t = (t.num : Rat) / ((t.den : Int) : Rat) := Rt.eq_nd t
  have hR : ((t.den : Int) : Rat) ≠ 0 := fun h => by have := Rt.cast_inj (b := 0) h; omega
  refine congrArg some (congrArg fr ?_)
  simp only [Rat.intCast_mul, Rat.intCast_neg, Rat.intCast_sub]
  have i2 : ((2 : Int) : Rat) = 2 := rfl
  have i1 : ((1 : Int) : Rat) = 1 := rfl
  rw [i2, i1]
  generalize (t.num : Rat) = N at e ⊢
  generalize ((t.den : Int) : Rat) = D at e hR ⊢
  rw [e]; clear e; grind
theorem triple_ok {t : Rat} (st : Sz 5 t) : o_triple_cosine (fr t) = some (fr (((4 : Int) : Rat) * (t * (t * t)) + ((-(3 : Int) : Int) : Rat) * t)) ∧ Sz 18 (((4 : Int) : Rat) * (t * (t * t)) + ((-(3 : Int) : Int) : Rat) * t) := by
  have pd := Rt.den_pos t
  obtain ⟨s1, s2⟩ := st
  have hn : t.num.natAbs ≤ 31 := by omega
  have hd : t.den ≤ 31 := by omega
  have hd' : (t.den : Int).natAbs ≤ 31 := by omega
  have hdd : ((t.den : Int) * (t.den : Int) * (t.den : Int)).natAbs ≤ 29791 := mul_le (mul_le hd' hd') hd'
  have hdn : (t.den : Int) * (t.den : Int) * (t.den : Int) ≠ 0 := Int.mul_ne_zero (Int.mul_ne_zero (by omega) (by omega)) (by omega)
  have u1 : (4 * t.num * t.num * t.num).natAbs ≤ 119164 := mul_le (mul_le (mul_le (n := 4) (p := 4) (by decide) hn) hn) hn
  have u2 : (3 * t.num * (t.den : Int) * (t.den : Int)).natAbs ≤ 89373 := mul_le (mul_le (mul_le (n := 3) (p := 3) (by decide) hn) hd') hd'
  have hv : (((4 * t.num * t.num * t.num - 3 * t.num * (t.den : Int) * (t.den : Int) : Int)) : Rat) / (((t.den : Int) * (t.den : Int) * (t.den : Int) : Int) : Rat) = ((4 : Int) : Rat) * (t * (t * t)) + ((-(3 : Int) : Int) : Rat) * t := by
    have e : t = (t.num : Rat) / ((t.den : Int) : Rat) := Rt.eq_nd t
    have hR : ((t.den : Int) : Rat) ≠ 0 := fun h => by have := Rt.cast_inj (b := 0) h; omega
    simp only [Rat.intCast_mul, Rat.intCast_neg, Rat.intCast_sub]
    have i4 : ((4 : Int) : Rat) = 4 := rfl
    have i3 : ((3 : Int) : Rat) = 3 := rfl
    rw [i4, i3]
    generalize (t.num : Rat) = N at e ⊢
    generalize ((t.den : Int) : Rat) = D at e hR ⊢
    rw [e]; clear e; grind
  refine ⟨?_, Rt.sz_of hdn hv.symm (by have := Int.natAbs_sub_le (4 * t.num * t.num * t.num) (3 * t.num * (t.den : Int) * (t.den : Int)); exact Nat.lt_of_le_of_lt (Nat.le_trans this (Nat.add_le_add u1 u2)) (by decide)) (Nat.lt_of_le_of_lt hdd (by decide))⟩
  unfold o_triple_cosine
  show ob (omul 4 t.num) _ = _
  rw [omul_l (by decide), ob_some]
  show ob (omul (4 * t.num) t.num) _ = _
  rw [omul_r (sm hn (by decide)), ob_some]
  show ob (omul (4 * t.num * t.num) t.num) _ = _
  rw [omul_r (sm hn (by decide)), ob_some]
  show ob (omul 3 t.num) _ = _
  rw [omul_l (by decide), ob_some]
  show ob (omul (3 * t.num) (t.den : Int)) _ = _
  rw [omul_r (sm hd' (by decide)), ob_some]
  show ob (omul (3 * t.num * (t.den : Int)) (t.den : Int)) _ = _
  rw [omul_r (sm hd' (by decide)), ob_some]
  show ob (omul (t.den : Int) (t.den : Int)) _ = _
  rw [omul_r (sm hd' (by decide)), ob_some]
  show ob (omul ((t.den : Int) * (t.den : Int)) (t.den : Int)) _ = _
  rw [omul_r (sm hd' (by decide)), ob_some, e_lowest, Rt.lowest_ok hdn (Nat.lt_of_le_of_lt hdd (Nat.lt_of_lt_of_le (show 29791 < 2 ^ 15 by decide) (Rt.pow_le (by omega)))), ob_some, hv]
end Zz.K68
namespace Zz.K68
open PySem
open Rt (fr Sz Bd hor)
def pC : Option Bool :=
    ob (o_can_third ((1 : Int), (2 : Int))) fun can_th147 =>
    ob (bif (!can_th147) then (ob (o_can_third ((0 : Int), (1 : Int))) fun can_th148 => ob (bif can_th148 then (ob (o_is_drawn_cubic ([(-(2 : Int)), (0 : Int), (0 : Int), (1 : Int)] : List Int)) fun is_dra149 => ob (bif (!is_dra149) then (ob (o_is_drawn_quartic ([(1 : Int), (1 : Int), (0 : Int), (0 : Int), (1 : Int)] : List Int)) fun is_dra150 => ob (bif (!is_dra150) then (ob (o_is_drawn_quartic ([(-(2 : Int)), (0 : Int), (0 : Int), (0 : Int), (1 : Int)] : List Int)) fun is_dra151 => some is_dra151) else (some false)) fun c152 => some c152) else (some false)) fun c153 => some c153) else (some false)) fun c154 => some c154) else (some false)) fun c155 =>
    some c155
theorem c0 : pC = some true := by decide +kernel
theorem law_true (ns : List Int) : Ok (o_law ns) fun r => r.1 = true := by
  unfold o_law
  refine ok_eq (Zz.orng1_ok (n := 3) (by omega)) ?_
  refine ok_ob (forR_all (fun _ => True) (fun s x _ _ => ?_) trivial) ?_
  · refine ok_eq (Zz.orng1_ok (n := 3) (by omega)) ?_
    refine ok_ob (mpS_ok (fun c => c.natAbs ≤ 12) fun x s => ok_dr (by decide) (by decide) fun d s1 h0 h1 => ok_some (by show (d - 12).natAbs ≤ 12; omega)) fun l hl => ?_
    rw [len_rng] at hl
    obtain ⟨a0, b0, c0', hl3⟩ := len3 hl.1
    have ha0 := hl.2 a0 (by rw [hl3]; simp)
    have hb0 := hl.2 b0 (by rw [hl3]; simp)
    have hc0 := hl.2 c0' (by rw [hl3]; simp)
    refine ok_eq (olen_ok (by omega)) ?_
    rw [hl3]
    refine ok_dr (by decide) (by decide) fun d1 s1 h0 h1 => ?_
    refine ok_dr (by decide) (by decide) fun d2 s2 h2 h3 => ?_
    dsimp only
    obtain ⟨sg, e1, e2⟩ : ∃ sg : Int, oget ([(1 : Int), (-(1 : Int))] : List Int) d2 = some sg ∧ (sg = 1 ∨ sg = -1) := by
      rcases (show d2 = 0 ∨ d2 = 1 by omega) with e | e <;> subst e
      · exact ⟨1, Rt.oget_0, Or.inl rfl⟩
      · exact ⟨-1, Rt.oget_1, Or.inr rfl⟩
    refine ok_eq e1 ?_
    refine ok_eq (omul_l (sm (n := 10) (by omega) (by decide))) ?_
    refine ok_eq (olen_ok (by simp)) ?_
    refine ok_dr (by decide) (by decide) fun d3 s3 _ _ => ?_
    dsimp only
    refine ok_ob (R := fun j : List Int × Sta => ∃ a b c d, j.1 = [a, b, c, d] ∧ d ≠ 0 ∧ a.natAbs ≤ 100 ∧ b.natAbs ≤ 100 ∧ c.natAbs ≤ 100 ∧ d.natAbs ≤ 100) ?_ fun j hj => ?_
    · refine ok_c (fun _ => ?_) fun _ => ok_some ⟨a0, b0, c0', (1 + d1) * sg, rfl, ?_, ?_, ?_, ?_, ?_⟩
      · refine ok_dr (by decide) (by decide) fun u1 _ g0 g1 => ?_
        refine ok_dr (by decide) (by decide) fun u2 _ g2 g3 => ?_
        refine ok_dr (by decide) (by decide) fun u3 _ g4 g5 => ?_
        refine ok_dr (by decide) (by decide) fun u4 _ g6 g7 => ?_
        refine ok_dr (by decide) (by decide) fun u5 _ g8 g9 => ?_
        have n1 : (u1 - 6).natAbs ≤ 6 := by omega
        have n2 : (1 + u2).natAbs ≤ 4 := by omega
        have n3 : (u3 - 6).natAbs ≤ 6 := by omega
        have n4 : (u4 - 3).natAbs ≤ 3 := by omega
        have n5 : (1 + u5).natAbs ≤ 3 := by omega
        refine ok_eq (t23 (sm n1 (by decide)) (sm n2 (by decide))) ?_
        refine ok_some ⟨_, _, _, _, rfl, Int.mul_ne_zero (by omega) (by omega), ?_, ?_, ?_, ?_⟩
        · exact Nat.le_trans (mul_le n1 n3) (by decide)
        · exact Nat.le_trans (add_le (mul_le n1 n4) (mul_le n2 n3)) (by decide)
        · exact Nat.le_trans (add_le (mul_le n1 n5) (mul_le n2 n4)) (by decide)
        · exact Nat.le_trans (mul_le n2 n5) (by decide)
      · exact Int.mul_ne_zero (by omega) (by omega)
      · exact Nat.le_trans ha0 (by decide)
      · exact Nat.le_trans hb0 (by decide)
      · exact Nat.le_trans hc0 (by decide)
      · exact Nat.le_trans (mul_le (n := 10) (m := 1) (by omega) (by omega)) (by decide)
    · obtain ⟨row, s4⟩ := j
      obtain ⟨a, b, c, d, e, h0, ha, hb, hc, hd⟩ := hj
      dsimp only at e
      subst e
      dsimp only
      obtain ⟨l, r1, r2, r3, r4⟩ := both h0 (Nat.le_trans ha (by decide)) (Nat.le_trans hb (by decide)) (Nat.le_trans hc (by decide)) (Nat.le_trans hd (by decide))
      refine ok_eq r1 ?_
      refine ok_dr (by decide) (by decide) fun v1 _ g0 g1 => ?_
      refine ok_dr (by decide) (by decide) fun v2 s5 g2 g3 => ?_
      dsimp only
      refine ok_eq (low_ok (p := v1 - 10) (q := 1 + v2) (by omega) (Nat.lt_of_le_of_lt (show (1 + v2).natAbs ≤ 6 by omega) (by decide))) ?_
      obtain ⟨x, hx⟩ : ∃ x, x = ((v1 - 10 : Int) : Rat) / ((1 + v2 : Int) : Rat) := ⟨_, rfl⟩
      have sx : Sz 30 x := (Rt.sz_of (p := v1 - 10) (q := 1 + v2) (n := 5) (by omega) hx (by omega) (by omega)).mono (by decide)
      rw [← hx]
      refine ok_eq (lworth4 (b7 ha) (b7 hb) (b7 hc) (b7 hd) sx) ?_
      refine ok_eq r2 ?_
      refine ok_eq (drawn_of r2) ?_
      refine ok_eq (worth2_ok (b7 ha) (b7 hb) (b7 hc) (b7 hd) sx) ?_
      refine ok_eq (oex_ok rfl (by
        show Zz.pl 8 (.lst [_, _, _]) = true
        simp only [Zz.pl, Zz.pls, pl_LP (n := 4) (xs := l.map fr) (by rw [List.length_map]; omega), eP, Bool.and_true, Bool.true_and]
        rfl)) ?_
      refine ok_f rfl ?_
      clear hl3 hl ha0 hb0 hc0 e1 e2 h0 ha hb hc hd r1 r2 r3 r4 hx sx
      -- part B
      refine ok_eq (Zz.orng1_ok (n := 4) (by omega)) ?_
      refine ok_ob (mpS_ok (fun c => c.natAbs ≤ 4) fun x s => ok_dr (by decide) (by decide) fun d s1 h0 h1 => ok_some (by show (d - 4).natAbs ≤ 4; omega)) fun l hl => ?_
      rw [len_rng] at hl
      obtain ⟨p, q, r, s, hl4⟩ := len4 hl.1
      have hp := hl.2 p (by rw [hl4]; simp)
      have hq := hl.2 q (by rw [hl4]; simp)
      have hr := hl.2 r (by rw [hl4]; simp)
      have hs := hl.2 s (by rw [hl4]; simp)
      refine ok_eq (olen_ok (by omega)) ?_
      rw [hl4]
      refine ok_eq (y := (p, q, r, s)) rfl ?_
      dsimp only
      obtain ⟨U, V, d, c, b, a, X, Y, Z, W, f1, f2, f3, f4, f5, f6, f7⟩ := four hp hq hr hs
      refine ok_eq f1 ?_
      refine ok_eq f2 ?_
      refine ok_eq f3 ?_
      refine ok_eq (omul_l (sm hp (by decide))) ?_
      refine ok_eq (omul_l (sm hr (by decide))) ?_
      refine ok_eq (omul_l (sm hp (by decide))) ?_
      refine ok_eq (omul_l (sm hq (by decide))) ?_
      refine ok_eq f4 ?_
      refine ok_eq (omul_l (sm hp (by decide))) ?_
      refine ok_eq (omul_l (sm hq (by decide))) ?_
      refine ok_eq f5 ?_
      refine ok_eq f6 ?_
      refine ok_eq f7 ?_
      refine ok_eq (oex_ok rfl rfl) ?_
      refine ok_f rfl ?_
      clear f1 f2 f3 f4 f5 f6 f7
      -- part C
      refine ok_eq (Zz.orng1_ok (n := 5) (by omega)) ?_
      refine ok_ob (mpS_ok (fun c => c.natAbs ≤ 3) fun x s => ok_dr (by decide) (by decide) fun d s1 h0 h1 => ok_some (by show (d - 3).natAbs ≤ 3; omega)) fun l' hl' => ?_
      rw [len_rng] at hl'
      obtain ⟨a, b, c, d, n, hl5⟩ := len5 hl'.1
      have ha := hl'.2 a (by rw [hl5]; simp)
      have hb := hl'.2 b (by rw [hl5]; simp)
      have hc := hl'.2 c (by rw [hl5]; simp)
      have hd := hl'.2 d (by rw [hl5]; simp)
      have hn := hl'.2 n (by rw [hl5]; simp)
      refine ok_eq (olen_ok (by omega)) ?_
      rw [hl5]
      refine ok_eq (y := (a, b, c, d, n)) rfl ?_
      dsimp only
      obtain ⟨T1, T2, L, f1, f2, f3, f4, f5⟩ := built_ok ha hb hc hd hn
      refine ok_eq f1 ?_
      refine ok_eq f2 ?_
      refine ok_eq (Zz.orng1_ok (n := 5) (by omega)) ?_
      refine ok_eq f3 ?_
      refine ok_eq (olen_ok (by omega)) ?_
      refine ok_eq f5 ?_
      refine ok_f rfl ?_
      clear f1 f2 f3 f4 f5
      -- part D
      refine ok_so ?_
      dsimp only
      have hk : (a - 3).natAbs ≤ 6 := by clear hl hl' hp hq hr hs hb hc hd hn; omega
      obtain ⟨M, lm, f1, f2, f3⟩ := mixed_ok hk hb hc hp
      refine ok_eq f1 ?_
      refine ok_eq f2 ?_
      refine ok_eq f3 ?_
      refine ok_eq (oex_ok rfl rfl) ?_
      refine ok_f rfl ?_
      clear f1 f2 f3 hk ha hb hc hd hn hp hq hr hs hl hl' hl4 hl5
      -- part E
      refine ok_dr (by decide) (by decide) fun k s6 k0 k1 => ?_
      dsimp only
      refine ok_so ?_
      refine ok_eq (omul_l (by decide)) ?_
      refine ok_dr (by omega) (by omega) fun w s7 w0 w1 => ?_
      dsimp only
      refine ok_eq (low_ok (p := w - (1 + k)) (q := 1 + k) (by omega) (Nat.lt_of_le_of_lt (show (1 + k).natAbs ≤ 30 by omega) (by decide))) ?_
      obtain ⟨t, ht⟩ : ∃ t, t = ((w - (1 + k) : Int) : Rat) / ((1 + k : Int) : Rat) := ⟨_, rfl⟩
      have st : Sz 5 t := Rt.sz_of (p := w - (1 + k)) (q := 1 + k) (n := 5) (by omega) ht (by omega) (by omega)
      rw [← ht]
      have stt := Rt.sz_mul st st
      have sttt := Rt.sz_mul st stt
      have z2 : Sz 4 ((2 : Int) : Rat) := Rt.szi (n := 3) (by unfold Bd; decide)
      have z4 : Sz 4 ((4 : Int) : Rat) := Rt.szi (n := 3) (by unfold Bd; decide)
      have z3 : Sz 4 ((-(3 : Int) : Int) : Rat) := Rt.szi (n := 3) (by unfold Bd; decide)
      have z1 : Sz 4 ((-(1 : Int) : Int) : Rat) := Rt.szi (n := 3) (by unfold Bd; decide)
      rw [← Rt.fr_int 2, ← Rt.fr_int 4, ← Rt.fr_int (-(3 : Int)), ← Rt.fr_int (-(1 : Int))]
      refine ok_eq (Rt.product_ok st st (by omega)) ?_
      refine ok_eq (Rt.product_ok z2 stt (by omega)) ?_
      refine ok_eq (Rt.plus_ok (Rt.sz_mul z2 stt) z1 (by omega)) ?_
      refine ok_eq (Rt.product_ok st stt (by omega)) ?_
      refine ok_eq (Rt.product_ok z4 sttt (by omega)) ?_
      refine ok_eq (Rt.product_ok z3 st (by omega)) ?_
      refine ok_eq (Rt.plus_ok (Rt.sz_mul z4 sttt) (Rt.sz_mul z3 st) (by omega)) ?_
      refine ok_eq (omul_l (by decide)) ?_
      refine ok_eq (omul_l (by decide)) ?_
      refine ok_so ?_
      dsimp only
      have sn : t.num.natAbs ≤ 31 := by have := st.1; omega
      have sd : t.den ≤ 31 := by have := st.2; omega
      obtain ⟨lt, f1, f2, f3, f4⟩ := third_ok (z := t) (Nat.le_trans sn (by decide)) (Nat.le_trans sd (by decide))
      refine ok_eq f2 ?_
      refine ok_so ?_
      refine ok_eq (double_ok st) ?_
      obtain ⟨tr1, tr2⟩ := triple_ok st
      refine ok_eq tr1 ?_
      refine ok_eq f1 ?_
      refine ok_eq f3 ?_
      refine ok_eq (oex_ok rfl (by simp [eH4, eP, eT4, Zz.pl, Zz.pls])) ?_
      refine ok_eq (y := false) (by
        show ob (bif (decide ((fr _).2 ≤ (100 : Int))) then _ else _) _ = _
        by_cases hden : (fr (((4 : Int) : Rat) * (t * (t * t)) + ((-(3 : Int) : Int) : Rat) * t)).2 ≤ (100 : Int)
        · have h100 : (((4 : Int) : Rat) * (t * (t * t)) + ((-(3 : Int) : Int) : Rat) * t).den ≤ 100 := by
            have : (((((4 : Int) : Rat) * (t * (t * t)) + ((-(3 : Int) : Int) : Rat) * t).den : Nat) : Int) ≤ 100 := hden
            omega
          obtain ⟨lz, _, _, g3, g4⟩ := third_ok (z := ((4 : Int) : Rat) * (t * (t * t)) + ((-(3 : Int) : Int) : Rat) * t) (Nat.le_of_lt (Nat.lt_of_lt_of_le tr2.1 (by decide))) (Nat.le_trans h100 (by decide))
          have ne : (!(decide (lz.map fr = ([] : List (Int × Int))))) = true := isn.mpr ⟨t, (g4 t).mpr (by
            rw [Rat.intCast_neg]
            have i4 : ((4 : Int) : Rat) = 4 := rfl
            have i3 : ((3 : Int) : Rat) = 3 := rfl
            rw [i4, i3]; grind)⟩
          rw [decide_eq_true hden, cond_true, g3, ob_some, ne, ob_some]; rfl
        · rw [decide_eq_false hden, cond_false, ob_some]) ?_
      refine ok_f rfl ?_
      clear f1 f2 f3 f4 tr1 tr2 sn sd stt sttt
      -- part F
      refine ok_so ?_
      refine ok_eq (Zz.orng1_ok (n := 5) (by omega)) ?_
      refine ok_ob (forO_cnt (fun k (s : List (Int × Int) × Sta) => ∃ xs : List Rat, s.1 = xs.map fr ∧ xs.Nodup ∧ (∀ x, x ∈ xs → Sz 100 x) ∧ xs.length ≤ k) 5 (n := 0) (by rw [len_rng]; omega) (fun k s x hk5 hR => ?_) ⟨[], rfl, List.nodup_nil, (fun x hx => by cases hx), by simp⟩) fun s8 hs8 => ?_
      · obtain ⟨xs, x1, x2, x3, x4⟩ := hR
        refine ok_dr (by decide) (by decide) fun v1 _ g0 g1 => ?_
        refine ok_dr (by decide) (by decide) fun v2 s5 g2 g3 => ?_
        dsimp only
        refine ok_eq (low_ok (p := v1 - 10) (q := 1 + v2) (by omega) (Nat.lt_of_le_of_lt (show (1 + v2).natAbs ≤ 6 by omega) (by decide))) ?_
        obtain ⟨x, hx⟩ : ∃ x, x = ((v1 - 10 : Int) : Rat) / ((1 + v2 : Int) : Rat) := ⟨_, rfl⟩
        have sx : Sz 100 x := (Rt.sz_of (p := v1 - 10) (q := 1 + v2) (n := 5) (by omega) hx (by omega) (by omega)).mono (by decide)
        rw [← hx, x1, Rt.memT_fr]
        by_cases hm : x ∈ xs
        · refine ok_eq (y := []) (by rw [decide_eq_true hm]; rfl) ?_
          refine ok_eq (olen_ok (by rw [List.append_nil, List.length_map]; have := x4; omega)) ?_
          exact ok_some ⟨xs, List.append_nil _, x2, x3, by omega⟩
        · refine ok_eq (y := [fr x]) (by rw [decide_eq_false hm]; rfl) ?_
          refine ok_eq (olen_ok (by rw [List.length_append, List.length_map]; have := x4; simp; omega)) ?_
          refine ok_some ⟨xs ++ [x], by rw [List.map_append]; rfl, ?_, ?_, by simp; omega⟩
          · rw [List.nodup_append]
            exact ⟨x2, by simp, fun a ha b hb e => hm (by rw [← (List.mem_singleton.mp hb), ← e]; exact ha)⟩
          · intro y hy
            rcases List.mem_append.mp hy with h | h
            · exact x3 y h
            · rw [List.mem_singleton.mp h]; exact sx
      · obtain ⟨xs, x1, x2, x3, x4⟩ := hs8
        rw [len_rng] at x4
        obtain ⟨l1, y1, y2, y3⟩ := lsorted_ok x2 x3 (by omega)
        obtain ⟨l2, w1, w2, w3⟩ := Rt.rising_ok x2 x3 (by omega)
        have : l1 = l2 := Rt.asc_uniq y2 w2 fun x => by rw [y3, w3]
        subst this
        have n1 : l1.Nodup := y2.imp (fun {a b} (h : a < b) (e : a = b) => by subst e; exact absurd h (Rat.not_lt.mpr (Rat.le_refl)))
        have n2 := ((List.perm_ext_iff_of_nodup n1 x2).mpr y3).length_eq
        rw [x1]
        refine ok_eq y1 ?_
        refine ok_eq (by rw [e_rising]; exact w1) ?_
        refine ok_eq (oex_ok rfl (pl_LP (n := 5) (by rw [List.length_map]; omega))) ?_
        refine ok_f rfl ?_
        exact ok_some ⟨_, rfl, trivial⟩
  · rintro r ⟨s', rfl, _⟩
    have h := c0
    unfold pC at h
    iterate 2 refine ok_sim h fun _ _ h => ?_
    cases h
    exact ok_some rfl
end Zz.K68
namespace Zz.K68
open PySem PySem.Spec PyProof.Rows L2
def Goal : Prop := ∀ ns : List Int, ns.length ≤ 63 → (∀ z ∈ ns, Builtin.Int.intBits z ≤ 1048576) → ∃ W m, evSs ⟨ns, W, callK (tab.map Fd.fn) ns W 20⟩ b_law (some .scr :: some .st :: List.replicate (f_law.N.length - 2) none) [.int 0, .int 0] = some (.rt (.bl true) m)
theorem goal : Goal := fun ns _ _ => by
  obtain ⟨r, h, e⟩ := law_true ns
  obtain ⟨q, h2, h3⟩ := w_law (k := 11) h
  rw [e] at h3
  cases q with
  | nx _ _ => cases h3
  | rt d m => cases h3; exact ⟨WW, _, h2⟩
abbrev R : PySem.W.OpenRow := PySem.W.OpenLaw.row PySem.Challenge.rw_threecorners_k68_whole_roots_that_are_dr
def faH : List He.Fa := faOf tab
def fnH : List He.DefD := fnOf tab f_law
abbrev hk : PySem.W.Hook := hookG 4 faH fnH
def ob_ (s : PySem.W.SharedT) : AlG := obsGG 4 faH fnH (HandSHeadRun.getT s)
theorem ob_eq (s : PySem.W.SharedT) : ob_ s = hk.obs s.abs := obsGG_eq (HandSHeadRun.getT_eq s)
abbrev lse : List Str := "__name__" :: "lowest" :: "worth" :: "divisors" :: "rational_roots" :: "rising" :: "is_drawn_cubic" :: "resolvent" :: "is_drawn_quartic" :: "third_cubic" :: "can_third" :: "double_cosine" :: "triple_cosine" :: "_law_refill" :: "_law_draw" :: "_law_exact" :: "_law_common" :: "_law_lowest" :: "_law_plus" :: "_law_product" :: "_law_worth" :: "_law_times" :: "_law_sorted" :: "_law_roots" :: []
theorem run (w : World) : HandSHeadRun.RunEqI R (PySem.W.view R.prog [0, 27]) hk ob_ 4000 lse w := by
  unfold HandSHeadRun.RunEqI
  kernel_rfl
end Zz.K68
open PySem PySem.W PySem.Calls PyProof.Rows Zz Zz.K68
theorem PySem.Challenge.cw_threecorners_k68_whole_roots_that_are_dr_holds : PySem.Challenge.rw_threecorners_k68_whole_roots_that_are_dr.Holds := by
  w_on; o_law
  refine HandSHeadRun.head_imp (r := OpenLaw.row PySem.Challenge.rw_threecorners_k68_whole_roots_that_are_dr) (q := view (OpenLaw.row PySem.Challenge.rw_threecorners_k68_whole_roots_that_are_dr).prog [0, 27]) (H := K68.hk) (ob := K68.ob_) (M := 4000) (loose := K68.lse) (d := HandSHeadRun.topDef (OpenLaw.row PySem.Challenge.rw_threecorners_k68_whole_roots_that_are_dr).prog 27) (kwd := []) K68.ob_eq
    K68.run (by kernel_rfl) (by kernel_rfl) (by kernel_rfl) (by rfl) (by first | assumption | decide +kernel) (by decide +kernel) ⟨rfl, rfl, rfl, rfl, rfl, by decide +kernel⟩ ?hw ?hc
  case hw => w_witness2
  case hc =>
    refine Zz.walk_ofEB (l := PySem.Challenge.rw_threecorners_k68_whole_roots_that_are_dr) (n := 63) (k := 21) (x := "script") (CX := L2.CX0) rfl (by decide) (by kernel_rfl) ⟨rfl, by decide, by decide⟩ ?F (fun _ _ _ _ z => z)
    intro w mg fa h Y G hmg0
    obtain ⟨K, KX, c, gc⟩ := Y
    have hmg : mg ("law" : PySem.Str) = some (.ref fa) := by
      have e : (HandSHeadRun.topDef (OpenLaw.row PySem.Challenge.rw_threecorners_k68_whole_roots_that_are_dr).prog 27).name = ("law" : PySem.Str) := by kernel_rfl
      rw [← e]
      exact hmg0
    obtain ⟨fd, hb, hF⟩ := Zz.facts (Pg := (PySem.Challenge.rw_threecorners_k68_whole_roots_that_are_dr).prog) (w := w) (k := 20) KX G K68.tab_ok c (fun z => gcd_ok KX G gc) hmg
    refine ⟨K, fd, spLaw K tab f_law 20, KX, hb, fun H a ns hl hbits ho hS => ?_, hF⟩
    obtain ⟨W, m, e⟩ := K68.goal ns hl hbits
    exact ⟨a, ns, W, m, rfl, fun p => scr_only ho hS, e, fun _ => rfl⟩
